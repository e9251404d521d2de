/- TroubleAt of the program and of the reference agree on every two machines and states, as a statement over lists alone; the bounds are those of memory. -/
import Derived.Test.YtfnbfconhpppfaaPFnExactTroubleAtx11
import Derived.Test.YtfnbfconhpppfaaGb
import Derived.Test.YtfnbfconhpppfaaGr
import Derived.Test.YtfnbfconhpppfaaGm
namespace Go.Proofs.Ytfnbfconhpppfaa.Pure
open Go.RowKit Go.Proofs.Ytfnbfconhpppfaa.PFnExactTroubleAt Go.Proofs.YtfnbfconhpppfaaW.PrintWords Go.Proofs.YtfnbfconhpppfaaW.PrintLast Go.Proofs.Ytfnbfconhpppfaa.Gb Go.Proofs.Ytfnbfconhpppfaa.Gr Go.Proofs.Ytfnbfconhpppfaa.Gm Go.Proofs.Ytfnbfconhpppfaa
set_option linter.unusedSimpArgs false
set_option linter.unusedVariables false
namespace FnExactTroubleAtAid

/-! ### T_Move -/
abbrev Mv := S80
abbrev LMv := S102
abbrev zMv : Mv := z80
abbrev zLMv : LMv := z102
theorem rd_Mv (l : List Mv) (i : Nat) : rd_T80 l (i : Int) = nt zMv l i := by simp [rd_T80, nt]
theorem rd_LMv (l : List LMv) (i : Nat) : rd_T102 l (i : Int) = nt zLMv l i := by simp [rd_T102, nt]
def convMv (x : LMv) : Mv := ⟨x.f0, x.f1, x.f2, x.f3⟩
def sameMv (x y : Mv) : Bool := (x.f0 == y.f0) && ((x.f1 == y.f1) && ((x.f2 == y.f2) && (x.f3 == y.f3)))
theorem sameMv_self (x : Mv) : sameMv x x = true := by simp [sameMv]
def eqBs (a b : List Bool) : Bool := decide (a.length = b.length) && allFrom (fun i => nt false a i == nt false b i) 0 a.length
def eqMvs (a b : List Mv) : Bool := decide (a.length = b.length) && allFrom (fun i => sameMv (nt zMv a i) (nt zMv b i)) 0 a.length
theorem rdb_cast (xs : List Bool) (i : Nat) : rdOf false xs (i : Int) = nt false xs i := rdOf_cast false xs i

/-! ### laws_szMachine -/
theorem laws_szMachine_eq {x : Int} {e : List Bool} {m : List LMv} {a : Int} (h0 : 0 ≤ a) (h1 : a ≤ 1048576) (he : e.length ≤ 9223372036854775807) (hm : m.length ≤ 9223372036854775807) : laws_szMachine.f x e m a = some (if a < e.length + m.length then -1 else a - (e.length + m.length)) := by
  unfold laws_szMachine.f laws_szBoolS.f
  rw [wrap_id (by omega) (by omega)]
  by_cases h : a - e.length < (0 : Int)
  · rw [if_pos h, Option.bind_some, if_pos (by omega), if_pos (by omega)]
  · rw [if_neg h, Option.bind_some, if_neg h]
    unfold laws_szMoveS.f
    rw [wrap_id (by omega) (by omega)]
    by_cases h2 : a - e.length - m.length < (0 : Int)
    · rw [if_pos h2, Option.bind_some, if_pos (by omega), if_pos (by omega)]
    · rw [if_neg h2, Option.bind_some, if_neg h2, if_neg (by omega)]; congr 1; omega

/-! ### laws_toMachine -/
theorem laws_toBoolS_eq {l : List Bool} {k : Nat} (hl : l.length ≤ 1048576) (hk : l.length < k) : laws_toBoolS.f k l = some l := by
  unfold laws_toBoolS.f
  rw [if_pos (by omega), toNat_cast, if_pos (by omega)]
  have h := map_loop (g := fun k acc i => laws_toBoolS.l0 k l acc (i : Int)) (l := l) (z := false) (zb := false) (f := id) (B := 0) (fun k acc ha => by
      simp only [laws_toBoolS.l0]; rw [if_neg (by omega)])
    (fun k i acc hi _ ha => by
      simp only [laws_toBoolS.l0]
      rw [if_pos (by omega), if_pos (by omega), rdb_cast, if_pos (by omega), wrap_up (n := l.length) hi (by omega), toNat_cast]; rfl) l.length k 0 (by omega) (by omega)
  simpa using h
theorem laws_toMoveS_eq {l : List LMv} {k : Nat} (hl : l.length ≤ 1048576) (hk : l.length < k) : laws_toMoveS.f k l = some (l.map convMv) := by
  unfold laws_toMoveS.f
  rw [if_pos (by omega), toNat_cast, if_pos (by omega)]
  have h := map_loop (g := fun k acc i => laws_toMoveS.l0 k l acc (i : Int)) (l := l) (z := zLMv) (zb := zMv) (f := convMv) (B := 0) (fun k acc ha => by
      simp only [laws_toMoveS.l0]; rw [if_neg (by omega)])
    (fun k i acc hi _ ha => by
      simp only [laws_toMoveS.l0]
      rw [if_pos (by omega), if_pos (by omega), rd_LMv]
      simp only [laws_toMove.f, Option.bind_some]
      rw [if_pos (by omega), wrap_up (n := l.length) hi (by omega), toNat_cast]; rfl) l.length k 0 (by omega) (by omega)
  simpa using h
theorem laws_toMachine_eq {x : Int} {e : List Bool} {m : List LMv} {k : Nat} (he : e.length ≤ 1048576) (hm : m.length ≤ 1048576) (hk : 1048577 < k) : laws_toMachine.f k x e m = some (x, e, m.map convMv) := by
  unfold laws_toMachine.f
  rw [laws_toBoolS_eq he (by omega), Option.bind_some, laws_toMoveS_eq hm (by omega), Option.bind_some]

/-! ### laws_eqMachine -/
theorem laws_eqBoolS_self {l : List Bool} {k : Nat} (hl : l.length ≤ 9223372036854775807) (hk : l.length < k) : laws_eqBoolS.f k l l = some true := by
  unfold laws_eqBoolS.f
  rw [if_pos rfl]
  exact pass_loop (g := fun k i => laws_eqBoolS.l0 k l l (i : Int)) (n := l.length) (B := 0) (fun k => by
      simp only [laws_eqBoolS.l0]; rw [if_neg (by omega)])
    (fun k i hi hk => by
      simp only [laws_eqBoolS.l0]
      rw [if_pos (by omega), if_pos (by omega), if_pos (by omega), wrap_up (n := l.length) hi hl, if_neg (by simp)]) l.length k 0 (by omega) (by omega)
theorem laws_eqMoveS_self {l : List Mv} {k : Nat} (hl : l.length ≤ 9223372036854775807) (hk : l.length < k) : laws_eqMoveS.f k l l = some true := by
  unfold laws_eqMoveS.f
  rw [if_pos rfl]
  exact pass_loop (g := fun k i => laws_eqMoveS.l0 k l l (i : Int)) (n := l.length) (B := 0) (fun k => by
      simp only [laws_eqMoveS.l0]; rw [if_neg (by omega)])
    (fun k i hi hk => by
      simp only [laws_eqMoveS.l0]
      rw [if_pos (by omega), if_pos (by omega), if_pos (by omega), wrap_up (n := l.length) hi hl]
      simp only [laws_eqMove.f, if_true, bne_self_eq_false, Bool.false_eq_true, if_false, Option.bind_some]) l.length k 0 (by omega) (by omega)
theorem laws_eqMachine_self {x : Int} {e : List Bool} {m : List Mv} {k : Nat} (he : e.length ≤ 1048576) (hm : m.length ≤ 1048576) (hk : 1048577 < k) : laws_eqMachine.f k x e m x e m = some true := by
  unfold laws_eqMachine.f
  rw [if_pos rfl, laws_eqBoolS_self (by omega) (by omega), Option.bind_some, if_pos rfl, laws_eqMoveS_self (by omega) (by omega), Option.bind_some, if_pos rfl]

/-! ### T_MoveOf -/
def keyMv (a : Int) (s : Bool) (m : Int) (x : Mv) : Bool := (x.f0 == a) && ((x.f1 == s) && (x.f2 == m))
def moveOf (l : List Mv) (a : Int) (s : Bool) (m : Int) : Int := (l.findIdx? (keyMv a s m)).elim (-1) fun j => (j : Int)

/-! ### T_put -/
/-- (putI: a number put into an ascending list: the library text Gm.) -/
theorem putI_nil (x : Int) : putI [] x = [x] := rfl

/-! ### spec_l4Put -/
theorem spec_l4Put_l0 (x : Int) : ∀ (rest done : List Int) (k : Nat), done.length + rest.length ≤ 2097152 → rest.length < k → spec_l4Put.l0 k (done ++ rest) x (done.length : Int) = some (done ++ putI rest x) := by
  intro rest
  induction rest with
  | nil =>
    intro done k hl hk
    obtain ⟨k, rfl⟩ := succ_of hk
    simp only [List.length_nil, Nat.add_zero] at hl
    simp only [spec_l4Put.l0, List.append_nil, Option.bind_some, toNat_cast, List.take_length, List.drop_length, List.nil_append, List.length_nil, List.length_singleton, List.length_append, Nat.zero_add, Nat.add_zero]
    rw [if_neg (by omega), if_pos (by omega), if_pos (by omega), if_pos (by omega), if_pos (by omega), if_pos (by omega)]
    rfl
  | cons y r ih =>
    intro done k hl hk
    obtain ⟨k, rfl⟩ := succ_of hk
    simp only [List.length_cons] at hl hk
    have ht : (done ++ y :: r).take done.length = done := by simp
    have hd : (done ++ y :: r).drop done.length = y :: r := by simp
    have hn : (done ++ y :: r).length = done.length + r.length + 1 := len_at done r y
    simp only [spec_l4Put.l0, Option.bind_some, toNat_cast, ht, hd, List.nil_append, List.length_nil, Nat.zero_add]
    rw [if_pos (by omega), if_pos (by omega), rd_cast, nt_at]
    simp only [putI]
    by_cases h1 : y < x
    · rw [if_pos h1, if_pos h1, wrap_up (n := done.length + 1) (by omega) (by omega)]
      have e := ih (done ++ [y]) k (by rw [len_snoc]; omega) (by omega)
      rw [List.append_assoc, List.singleton_append, len_snoc] at e
      rw [e, List.append_assoc]; rfl
    · rw [if_neg h1, if_neg h1]
      by_cases h2 : y = x
      · rw [if_pos h2, if_pos h2, if_pos (by omega)]
      · rw [if_neg h2, if_neg h2, if_pos (by omega), if_pos (by omega)]
        simp only [List.length_append, List.length_singleton, List.length_cons, List.length_nil, Nat.add_zero, Nat.zero_add]
        rw [if_pos (by omega), if_pos (by omega), List.append_assoc]; rfl
theorem spec_l4Put_eq {l : List Int} {x : Int} {k : Nat} (hl : l.length ≤ 1048576) (hk : l.length < k) : spec_l4Put.f k l x = some (putI l x) := by
  unfold spec_l4Put.f
  exact spec_l4Put_l0 x l [] k (by simp; omega) hk

/-! ### spec_MovesFrom -/
def fromMv (a : Int) (s : Bool) (x : Mv) : Bool := (x.f0 == a) && (x.f1 == s)
def movesFrom (l : List Mv) (a : Int) (s : Bool) : List Int := l.foldl (fun acc x => if fromMv a s x = true then putI acc x.f2 else acc) []
theorem spec_MovesFrom_eq {n : Int} {e : List Bool} {l : List Mv} {a : Int} {s : Bool} {k : Nat} (hl : l.length ≤ 1048576) (hk : 2 * l.length + 2 < k) : spec_MovesFrom.f k n e l a s = some (movesFrom l a s) := by
  unfold spec_MovesFrom.f
  have h := fold_loop (g := fun k acc i => spec_MovesFrom.l0 k a s acc (i : Int) n e l) (n := l.length) (B := l.length + 1) (f := fun i acc => if fromMv a s (nt zMv l i) = true then putI acc (nt zMv l i).f2 else acc) (fin := fun acc => acc) (fun i acc => acc.length ≤ i) (fun k acc _ => by
      simp only [spec_MovesFrom.l0]; rw [if_neg (by omega)])
    (fun k i acc hi hk ha => by
      constructor
      · simp only [spec_MovesFrom.l0]
        rw [if_pos (by omega), if_pos (by omega), rd_Mv, wrap_up (n := l.length) hi (by omega)]
        by_cases h1 : (nt zMv l i).f0 = a
        · rw [if_pos h1]
          cases h2 : ((nt zMv l i).f1 == s) with
          | true => rw [if_pos rfl, if_pos (by simp [fromMv, h1, h2]), spec_l4Put_eq (by omega) (by omega), Option.bind_some]
          | false => rw [if_neg (by simp), if_neg (by simp [fromMv, h2])]
        · rw [if_neg h1, if_neg (by simp [fromMv, h1])]
      · have := putI_length acc (nt zMv l i).f2
        by_cases hq : fromMv a s (nt zMv l i) = true
        · rw [if_pos hq]; omega
        · rw [if_neg hq]; omega) l.length k 0 [] (by omega) (by omega) (by simp)
  have h2 := foldFrom_list (f := fun (acc : List Int) x => if fromMv a s x = true then putI acc x.f2 else acc) (l := l) (z := zMv) (s := [])
  rw [h2] at h
  simpa [movesFrom] using h
theorem movesFrom_nonempty (a : Int) (s : Bool) : ∀ (l : List Mv) (acc : List Int), (0 < (l.foldl (fun acc x => if fromMv a s x = true then putI acc x.f2 else acc) acc).length) ↔ (0 < acc.length ∨ l.any (fromMv a s) = true)
  | [], acc => by simp
  | x :: r, acc => by
    rw [List.foldl_cons, movesFrom_nonempty a s r, List.any_cons]
    have := putI_length acc x.f2
    by_cases h : fromMv a s x = true
    · rw [if_pos h, h]; simp; omega
    · rw [if_neg h]; simp [h]

/-! ### impl_MovesFrom -/
theorem movesFrom_sort (l : List Mv) (a : Int) (s : Bool) : movesFrom l a s = sortUniq ((l.filter (fromMv a s)).map (·.f2)) := by
  rw [sortUniq_eq]
  unfold movesFrom
  have : ∀ (l : List Mv) (acc : List Int), l.foldl (fun acc x => if fromMv a s x = true then putI acc x.f2 else acc) acc = ((l.filter (fromMv a s)).map (·.f2)).foldl putI acc := by
    intro l
    induction l with
    | nil => intro acc; rfl
    | cons x r ih =>
      intro acc
      rw [List.foldl_cons, List.filter_cons, ih]
      by_cases h : fromMv a s x = true
      · rw [if_pos h, if_pos h]; rfl
      · rw [if_neg h, if_neg h]
  exact this l []
theorem impl_MovesFrom_eq {n : Int} {e : List Bool} {l : List Mv} {a : Int} {s : Bool} {k : Nat} (hl : l.length ≤ 1048576) (hk : l.length < k) : impl_MovesFrom.f k n e l a s = some (movesFrom l a s) := by
  unfold impl_MovesFrom.f
  have h := filter_loopC (g := fun k acc i => impl_MovesFrom.l0 k a s acc l (l.length : Int) (i : Int)) (l := l) (z := zMv) (B := 0) (p := fromMv a s) (f := fun x => x.f2) (fin := fun acc => some (sortUniq acc)) (fun k acc _ ha => by
      simp only [impl_MovesFrom.l0]
      rw [if_neg (by omega)]
      unfold slices_Sort_int_int.f slices_Compact_int_int.f
      rw [if_pos (by omega), Option.bind_some, Option.bind_some]; rfl)
    (fun k i acc hi _ hacc => by
      simp only [impl_MovesFrom.l0]
      rw [if_pos (by omega), if_pos (by omega), if_pos (by omega), rd_Mv, wrap_up (n := l.length) hi (by omega)]
      by_cases h1 : (nt zMv l i).f0 = a
      · rw [if_pos h1]
        cases h2 : ((nt zMv l i).f1 == s) with
        | true => rw [if_pos rfl, if_pos (show acc.length < 17592186044416 by omega), if_pos (by simp [fromMv, h1, h2])]
        | false => rw [if_neg (by simp), if_neg (by simp [fromMv, h2])]
      · rw [if_neg h1, if_neg (by simp [fromMv, h1])]) l.length k 0 [] (by omega) (by omega) (by simp)
  rw [movesFrom_sort]
  simpa using h
theorem movesFrom_len (l : List Mv) (a : Int) (s : Bool) : (movesFrom l a s).length ≤ l.length := by
  rw [movesFrom_sort]; unfold sortUniq
  refine Nat.le_trans (compact_len _) ?_
  rw [List.length_mergeSort, List.length_map]
  exact List.length_filter_le _ _
theorem movesFrom_strict (l : List Mv) (a : Int) (s : Bool) : (movesFrom l a s).Pairwise (· < ·) := by rw [movesFrom_sort]; exact (sortUniq_spec _).1
theorem mem_movesFrom {l : List Mv} {a : Int} {s : Bool} {v : Int} : v ∈ movesFrom l a s ↔ ∃ x ∈ l, fromMv a s x = true ∧ x.f2 = v := by
  rw [movesFrom_sort, (sortUniq_spec _).2, List.mem_map]
  constructor
  · rintro ⟨x, hx, rfl⟩; rw [List.mem_filter] at hx; exact ⟨x, hx.1, hx.2, rfl⟩
  · rintro ⟨x, hx, h, rfl⟩; exact ⟨x, List.mem_filter.2 ⟨hx, h⟩, rfl⟩

/-! ### T_moves -/
theorem moveOf_any (l : List Mv) (a : Int) (s : Bool) (v : Int) : 0 ≤ moveOf l a s v ↔ v ∈ movesFrom l a s := by
  rw [mem_movesFrom]
  have h := idx_any (keyMv a s v) l
  have e : decide (moveOf l a s v ≥ 0) = l.any (keyMv a s v) := h
  constructor
  · intro q
    rw [decide_eq_true (show moveOf l a s v ≥ 0 from q)] at e
    obtain ⟨x, hx, hk⟩ := List.any_eq_true.1 e.symm
    simp only [keyMv, Bool.and_eq_true, beq_iff_eq] at hk
    exact ⟨x, hx, by simp [fromMv, hk.1, hk.2.1], hk.2.2⟩
  · rintro ⟨x, hx, hf, rfl⟩
    have : l.any (keyMv a s x.f2) = true := List.any_eq_true.2 ⟨x, hx, by simp only [fromMv, Bool.and_eq_true, beq_iff_eq] at hf; simp [keyMv, hf.1, hf.2]⟩
    rw [this] at e
    exact of_decide_eq_true e

/-! ### T_pairs -/
/-- Is every number of a among those of b? -/
def within (a b : List Int) : Bool := a.all fun x => b.any (· == x)
def without (a b : List Int) : List Int := a.filter fun x => !b.any (· == x)
def endAt (e : List Bool) (x : Int) : Bool := decide (0 ≤ x ∧ x ≤ (e.length : Int) - 1) && nt false e x.toNat
theorem without_pos (a b : List Int) : ((without a b).length : Int) > 0 ↔ within a b = false := by
  unfold without within
  rw [List.all_eq_false]
  constructor
  · intro h
    obtain ⟨x, hx⟩ := List.exists_mem_of_length_pos (l := a.filter fun x => !b.any (· == x)) (by omega)
    rw [List.mem_filter] at hx
    exact ⟨x, hx.1, fun h => by have h2 := hx.2; rw [h] at h2; cases h2⟩
  · rintro ⟨x, hx, hq⟩
    have : x ∈ a.filter fun x => !b.any (· == x) := List.mem_filter.2 ⟨hx, by rw [Bool.eq_false_iff.2 hq]; rfl⟩
    have := List.length_pos_of_mem this
    omega
theorem endAt_eq {e : List Bool} {x : Int} (he : e.length ≤ 1048576) : endAt e x = if 0 ≤ x ∧ x < (e.length : Int) then nt false e x.toNat else false := by
  unfold endAt
  by_cases h : 0 ≤ x ∧ x < (e.length : Int)
  · rw [if_pos h, decide_eq_true (by omega), Bool.true_and]
  · rw [if_neg h, decide_eq_false (by omega), Bool.false_and]
theorem rdb_toNat (e : List Bool) (x : Int) (h : 0 ≤ x) : rdOf false e x = nt false e x.toNat := by
  have := rdb_cast e x.toNat
  rwa [Int.toNat_of_nonneg h] at this

/-! ### T_next -/
theorem moveOf_bnd (l : List Mv) (a : Int) (s : Bool) (m : Int) : moveOf l a s m < 0 ∨ ∃ j : Nat, moveOf l a s m = j ∧ j < l.length ∧ keyMv a s m (nt zMv l j) = true := by
  rcases idx_elim_nonneg (keyMv a s m) l zMv with ⟨h, _⟩ | ⟨j, h1, h2, h3, _⟩
  · exact .inl h
  · exact .inr ⟨j, h1, h2, h3⟩
/-- Both machines make the move of message v: the first as s tells, the second the other way round. -/
def pairOk (l m : List Mv) (x y : Int) (s : Bool) (v : Int) : Bool := decide (0 ≤ moveOf l x s v) && decide (0 ≤ moveOf m y (!s) v)
def pairTo (l m : List Mv) (x y : Int) (s : Bool) (v : Int) : List Int := [(nt zMv l (moveOf l x s v).toNat).f3, (nt zMv m (moveOf m y (!s) v).toNat).f3]
def nextPairs (l m : List Mv) (x y : Int) : List (List Int) :=
  ((movesFrom l x true).filter (pairOk l m x y true)).map (pairTo l m x y true) ++ ((movesFrom m y true).filter (pairOk l m x y false)).map (pairTo l m x y false)
theorem nextPairs_len (l m : List Mv) (x y : Int) : (nextPairs l m x y).length ≤ l.length + m.length := by
  unfold nextPairs
  rw [List.length_append, List.length_map, List.length_map]
  have h1 := List.length_filter_le (pairOk l m x y true) (movesFrom l x true)
  have h2 := List.length_filter_le (pairOk l m x y false) (movesFrom m y true)
  have h3 := movesFrom_len l x true
  have h4 := movesFrom_len m y true
  omega

/-! ### spec_MoveOf -/
theorem spec_MoveOf_eq {n : Int} {e : List Bool} {l : List Mv} {a : Int} {s : Bool} {m : Int} {k : Nat} (hl : l.length ≤ 1048576) (hk : l.length < k) : spec_MoveOf.f k n e l a s m = some (moveOf l a s m) := by
  unfold spec_MoveOf.f
  have h := find_loop (g := fun k i => spec_MoveOf.l0 k a s m (i : Int) n e l) (l := l) (z := zMv) (B := 0) (p := keyMv a s m) (hit := fun i => (i : Int)) (miss := -1) (fun k => by
      simp only [spec_MoveOf.l0]; rw [if_neg (by omega)])
    (fun k i hi _ => by
      simp only [spec_MoveOf.l0]
      rw [if_pos (by omega), if_pos (by omega), rd_Mv, wrap_up (n := l.length) hi (by omega)]
      by_cases h1 : (nt zMv l i).f0 = a
      · rw [if_pos h1]
        cases h2 : ((nt zMv l i).f1 == s) with
        | true =>
          rw [if_pos rfl]
          by_cases h3 : (nt zMv l i).f2 = m
          · rw [if_pos h3, if_pos (by simp [keyMv, h1, h2, h3])]
          · rw [if_neg h3, if_neg (by simp [keyMv, h3])]
        | false => rw [if_neg (by simp), if_neg (by simp [keyMv, h2])]
      · rw [if_neg h1, if_neg (by simp [keyMv, h1])]) l.length k 0 (by omega) (by omega)
  simpa [moveOf] using h

/-! ### spec_NextPairs -/
theorem spec_NextPairs_l1 {n n2 : Int} {e f : List Bool} {l m : List Mv} {x y : Int} {acc : List (List Int)} {k : Nat} (hl : l.length ≤ 1048576) (hm : m.length ≤ 1048576) (ha : acc.length ≤ 1048576) (hk : 2100000 < k) :
    spec_NextPairs.l1 k x y acc (movesFrom m y true) 0 n e l n2 f m = some (acc ++ ((movesFrom m y true).filter (pairOk l m x y false)).map (pairTo l m x y false)) := by
  have a3 := movesFrom_len m y true
  have h := filter_inner (g := fun k acc i => spec_NextPairs.l1 k x y acc (movesFrom m y true) (i : Int) n e l n2 f m) (l := movesFrom m y true) (z := 0) (B := 1048577) (c := acc.length) (p := pairOk l m x y false) (f := pairTo l m x y false) (cont := fun k acc => some acc) (fun k acc _ _ => by
      simp only [spec_NextPairs.l1]; rw [if_neg (by omega)])
    (fun k i acc hi hk hacc => by
      simp only [spec_NextPairs.l1]
      rw [if_pos (by omega), if_pos (by omega), rd_cast, wrap_up (n := (movesFrom m y true).length) hi (by omega), spec_MoveOf_eq (by omega) (by omega), Option.bind_some, spec_MoveOf_eq (by omega) (by omega), Option.bind_some]
      have hv := (moveOf_any m y true (nt 0 (movesFrom m y true) i)).2 (nt_mem 0 _ i hi)
      unfold pairOk pairTo
      simp only [Bool.not_false]
      rw [decide_eq_true hv, Bool.and_true]
      rcases moveOf_bnd m y true (nt 0 (movesFrom m y true) i) with q | ⟨j2, e2, b2, _⟩
      · omega
      · rcases moveOf_bnd l x false (nt 0 (movesFrom m y true) i) with q | ⟨j, e1, b1, _⟩
        · rw [if_neg (by omega), if_neg (by simp; omega)]
        · rw [if_pos (by omega), if_pos (by omega), if_pos (by omega), if_pos (by omega), if_pos (by omega), if_pos (by omega), if_pos (by simp; omega), e1, e2, rd_Mv, rd_Mv, toNat_cast, toNat_cast]) (movesFrom m y true).length k 0 acc (by omega) (by omega) (by omega)
  rw [List.drop_zero] at h
  exact h
theorem spec_NextPairs_eq {n n2 : Int} {e f : List Bool} {l m : List Mv} {x y : Int} {k : Nat} (hl : l.length ≤ 1048576) (hm : m.length ≤ 1048576) (hk : 4000000 + 3000000 < k) : spec_NextPairs.f k n e l n2 f m x y = some (nextPairs l m x y) := by
  have a3 := movesFrom_len l x true
  unfold spec_NextPairs.f
  rw [spec_MovesFrom_eq (by omega) (by omega), Option.bind_some]
  have h := filter_inner (g := fun k acc i => spec_NextPairs.l0 k x y acc (movesFrom l x true) (i : Int) n e l n2 f m) (l := movesFrom l x true) (z := 0) (B := 4000000) (c := 0) (p := pairOk l m x y true) (f := pairTo l m x y true) (cont := fun k acc => some (acc ++ ((movesFrom m y true).filter (pairOk l m x y false)).map (pairTo l m x y false))) (fun k acc hk ha => by
      simp only [spec_NextPairs.l0]; rw [if_neg (by omega), spec_MovesFrom_eq (by omega) (by omega), Option.bind_some]
      exact spec_NextPairs_l1 hl hm (by omega) (by omega))
    (fun k i acc hi hk hacc => by
      simp only [spec_NextPairs.l0]
      rw [if_pos (by omega), if_pos (by omega), rd_cast, wrap_up (n := (movesFrom l x true).length) hi (by omega), spec_MoveOf_eq (by omega) (by omega), Option.bind_some, spec_MoveOf_eq (by omega) (by omega), Option.bind_some]
      have hv := (moveOf_any l x true (nt 0 (movesFrom l x true) i)).2 (nt_mem 0 _ i hi)
      unfold pairOk pairTo
      simp only [Bool.not_true]
      rw [decide_eq_true hv, Bool.true_and]
      rcases moveOf_bnd l x true (nt 0 (movesFrom l x true) i) with q | ⟨j2, e2, b2, _⟩
      · omega
      · rcases moveOf_bnd m y false (nt 0 (movesFrom l x true) i) with q | ⟨j, e1, b1, _⟩
        · rw [if_neg (by omega), if_neg (by simp; omega)]
        · rw [if_pos (by omega), if_pos (by omega), if_pos (by omega), if_pos (by omega), if_pos (by omega), if_pos (by omega), if_pos (by simp; omega), e1, e2, rd_Mv, rd_Mv, toNat_cast, toNat_cast]) (movesFrom l x true).length k 0 [] (by omega) (by omega) (by simp)
  rw [List.drop_zero, List.nil_append] at h
  exact h

/-! ### spec_l1In -/
theorem spec_l1In_eq (a b c : Int) : spec_l1In.f a b c = some (decide (b ≤ a ∧ a ≤ c)) := by
  unfold spec_l1In.f
  by_cases h : a ≥ b
  · rw [if_pos h]; simp [show b ≤ a from h]
  · rw [if_neg h, decide_eq_false (by omega)]

/-! ### spec_l14End -/
theorem spec_l14End_eq {n : Int} {e : List Bool} {l : List Mv} {x : Int} (he : e.length ≤ 1048576) : spec_l14End.f n e l x = some (endAt e x) := by
  unfold spec_l14End.f
  rw [wrap_id (by omega) (by omega), spec_l1In_eq, Option.bind_some, endAt_eq he]
  by_cases h : 0 ≤ x ∧ x < (e.length : Int)
  · rw [if_pos (by simp; omega), if_pos h.1, if_pos h.2, if_pos h, rdb_toNat e x h.1]
  · rw [if_neg (by simp; omega), if_neg h]

/-! ### spec_TroubleAt -/
def unread (l m : List Mv) (x y : Int) : Bool := (movesFrom l x true).any fun v => decide (moveOf m y false v < 0)
def troubleAt (e : List Bool) (l : List Mv) (f : List Bool) (m : List Mv) (x y : Int) : Int :=
  if unread l m x y || unread m l y x then 1 else if decide ((nextPairs l m x y).length = 0) && !(endAt e x && endAt f y) then 2 else 0
theorem spec_l14Unread_eq {n n2 : Int} {e f : List Bool} {l m : List Mv} {x y : Int} {k : Nat} (hl : l.length ≤ 1048576) (hm : m.length ≤ 1048576) (hk : 4000000 < k) : spec_l14Unread.f k n e l n2 f m x y = some (unread l m x y) := by
  have a3 := movesFrom_len l x true
  unfold spec_l14Unread.f
  rw [spec_MovesFrom_eq (by omega) (by omega), Option.bind_some]
  have h := any_loop (g := fun k i => spec_l14Unread.l0 k y (movesFrom l x true) (i : Int) n2 f m) (l := movesFrom l x true) (z := 0) (B := 1048577) (p := fun v => decide (moveOf m y false v < 0)) (fun k => by
      simp only [spec_l14Unread.l0]; rw [if_neg (by omega)])
    (fun k i hi hk => by
      simp only [spec_l14Unread.l0]
      rw [if_pos (by omega), if_pos (by omega), rd_cast, wrap_up (n := (movesFrom l x true).length) hi (by omega), spec_MoveOf_eq (by omega) (by omega), Option.bind_some]
      by_cases q : moveOf m y false (nt 0 (movesFrom l x true) i) < 0
      · rw [if_pos q, if_pos (by simp [q])]
      · rw [if_neg q, if_neg (by simp [q])]) (movesFrom l x true).length k 0 (by omega) (by omega)
  exact h
theorem spec_TroubleAt_eq {n n2 : Int} {e f : List Bool} {l m : List Mv} {x y : Int} {k : Nat} (he : e.length ≤ 1048576) (hf : f.length ≤ 1048576) (hl : l.length ≤ 1048576) (hm : m.length ≤ 1048576) (hk : 8000000 < k) : spec_TroubleAt.f k n e l n2 f m x y = some (troubleAt e l f m x y) := by
  unfold spec_TroubleAt.f troubleAt
  obtain ⟨k, rfl⟩ : ∃ k', k = k' + 1 := ⟨k - 1, by omega⟩
  have J : ∀ b, spec_TroubleAt.j0 (k + 1) x y b n e l n2 f m = some (if b = true then 1 else if decide ((nextPairs l m x y).length = 0) && !(endAt e x && endAt f y) then 2 else 0) := by
    intro b
    simp only [spec_TroubleAt.j0]
    cases b with
    | true => rfl
    | false =>
      rw [if_neg (by simp), if_neg (by simp), spec_NextPairs_eq hl hm (by omega), Option.bind_some, spec_l14End_eq he, spec_l14End_eq hf]
      by_cases q : (nextPairs l m x y).length = 0
      · rw [if_pos (by omega), decide_eq_true q]
        cases endAt e x <;> cases endAt f y <;> rfl
      · rw [if_neg (by omega), decide_eq_false q]; rfl
  rw [spec_l14Unread_eq hl hm (by omega), Option.bind_some, spec_l14Unread_eq hm hl (by omega), Option.bind_some]
  simp only [J]
  cases unread l m x y <;> cases unread m l y x <;> rfl

/-! ### impl_MoveOf -/
theorem impl_MoveOf_eq (n : Int) (e : List Bool) (l : List Mv) (a : Int) (s : Bool) (m : Int) : impl_MoveOf.f n e l a s m = some (moveOf l a s m) := rfl

/-! ### impl_NextPairs -/
theorem impl_NextPairs_l1 {n n2 : Int} {e f : List Bool} {l m : List Mv} {x y : Int} {s : Bool} {ws : List Bool} {z j : Int} {w : List Int} {acc : List (List Int)} {k : Nat} (hl : l.length ≤ 1048576) (hm : m.length ≤ 1048576) (hw : w.length ≤ 1048576) (ha : acc.length ≤ 1048576) (hk : 1048580 < k) :
    impl_NextPairs.l1 k x y acc s ws z j w (w.length : Int) 0 n e l n2 f m = impl_NextPairs.l0 (k - w.length - 1) x y (acc ++ (w.filter (pairOk l m x y s)).map (pairTo l m x y s)) ws z (wrap64 (j + 1)) n e l n2 f m := by
  have h := filter_inner (g := fun k acc i => impl_NextPairs.l1 k x y acc s ws z j w (w.length : Int) (i : Int) n e l n2 f m) (l := w) (z := 0) (B := 0) (c := acc.length) (p := pairOk l m x y s) (f := pairTo l m x y s) (cont := fun k acc => impl_NextPairs.l0 k x y acc ws z (wrap64 (j + 1)) n e l n2 f m) (fun k acc _ _ => by
      simp only [impl_NextPairs.l1]; rw [if_neg (by omega)])
    (fun k i acc hi hk hacc => by
      simp only [impl_NextPairs.l1]
      rw [if_pos (by omega), if_pos (by omega), if_pos (by omega), rd_cast, wrap_up (n := w.length) hi (by omega), impl_MoveOf_eq, Option.bind_some, impl_MoveOf_eq, Option.bind_some]
      unfold pairOk pairTo
      rcases moveOf_bnd l x s (nt 0 w i) with q | ⟨j2, e2, b2, _⟩
      · rw [if_neg (by omega), if_neg (by simp; omega)]
      · rcases moveOf_bnd m y (!s) (nt 0 w i) with q | ⟨j3, e1, b1, _⟩
        · rw [if_pos (by omega), if_neg (by omega), if_neg (by simp; omega)]
        · rw [if_pos (by omega), if_pos (by omega), if_pos (by omega), if_pos (by omega), if_pos (by omega), if_pos (by omega), if_pos (by omega), if_pos (by simp; omega), e1, e2, rd_Mv, rd_Mv, toNat_cast, toNat_cast]) w.length k 0 acc (by omega) (by omega) (by omega)
  rw [List.drop_zero] at h
  exact h
theorem impl_NextPairs_eq {n n2 : Int} {e f : List Bool} {l m : List Mv} {x y : Int} {k : Nat} (hl : l.length ≤ 1048576) (hm : m.length ≤ 1048576) (hk : 4000000 + 3000000 < k) : impl_NextPairs.f k n e l n2 f m x y = some (nextPairs l m x y) := by
  have a3 := movesFrom_len l x true
  have a4 := movesFrom_len m y true
  have c1 := List.length_filter_le (pairOk l m x y true) (movesFrom l x true)
  unfold impl_NextPairs.f
  rw [Option.bind_some]
  obtain ⟨k, rfl⟩ : ∃ k', k = k' + 2 := ⟨k - 2, by omega⟩
  have r0 : rdOf false [true, false] 0 = true := rfl
  have r1 : rdOf false [true, false] 1 = false := rfl
  have q0 : (([true, false] : List Bool).length : Int) = 2 := rfl
  simp only [impl_NextPairs.l0, q0]
  rw [if_pos (by omega), if_pos (by omega), if_pos (by omega), impl_MovesFrom_eq (by omega) (by omega), Option.bind_some, r0, if_pos rfl]
  simp only [impl_NextPairs.j1]
  rw [impl_NextPairs_l1 hl hm (by omega) (by simp) (by omega)]
  obtain ⟨k2, e2⟩ : ∃ k2, k - (movesFrom l x true).length - 1 = k2 + 2 := ⟨k - (movesFrom l x true).length - 1 - 2, by omega⟩
  rw [e2, show wrap64 (0 + 1) = 1 by rw [wrap_id (by omega) (by omega)]; rfl]
  simp only [impl_NextPairs.l0]
  rw [if_pos (by omega), if_pos (by omega), if_pos (by rw [q0]; omega), impl_MovesFrom_eq (by omega) (by omega), Option.bind_some, r1, if_neg (by simp), impl_MovesFrom_eq (by omega) (by omega), Option.bind_some]
  simp only [impl_NextPairs.j1]
  rw [impl_NextPairs_l1 hl hm (by omega) (by rw [List.nil_append, List.length_map]; omega) (by omega)]
  obtain ⟨k3, e3⟩ : ∃ k3, k2 - (movesFrom m y true).length - 1 = k3 + 1 := ⟨k2 - (movesFrom m y true).length - 1 - 1, by omega⟩
  rw [e3, show wrap64 (1 + 1) = 2 by rw [wrap_id (by omega) (by omega)]; rfl]
  simp only [impl_NextPairs.l0]
  rw [if_neg (by omega), List.nil_append]; rfl

/-! ### slices_Index_int_int -/
theorem slices_Index_int_int_eq {l : List Int} {n : Int} {k : Nat} (hl : l.length ≤ 9223372036854775807) (hk : l.length < k) : slices_Index_int_int.f k l n = some ((l.findIdx? (· == n)).elim (-1) fun j => (j : Int)) := by
  unfold slices_Index_int_int.f
  have h := find_loop (g := fun k i => slices_Index_int_int.l0 k l n (l.length : Int) (i : Int)) (l := l) (z := 0) (B := 0) (p := (· == n)) (hit := fun j => (j : Int)) (miss := (-1 : Int)) (fun k => by
      simp only [slices_Index_int_int.l0]; rw [if_neg (by omega)])
    (fun k i hi _ => by
      simp only [slices_Index_int_int.l0]
      rw [if_pos (by omega), if_pos (by omega), if_pos (by omega), wrap_up (n := l.length) hi hl, rd_cast]
      by_cases e : nt 0 l i = n
      · rw [if_pos e.symm, if_pos (by simp [e])]
      · rw [if_neg (fun h => e h.symm), if_neg (by simp [e])]) l.length k 0 (by omega) (by omega)
  simpa using h

/-! ### slices_Contains_int_int -/
theorem slices_Contains_int_int_eq {l : List Int} {n : Int} {k : Nat} (hl : l.length ≤ 9223372036854775807) (hk : l.length < k) : slices_Contains_int_int.f k l n = some (l.any (· == n)) := by
  unfold slices_Contains_int_int.f
  rw [slices_Index_int_int_eq hl hk, Option.bind_some, idx_any]

/-! ### impl_InRange -/
theorem impl_InRange_eq (a b c : Int) : impl_InRange.f a b c = some (decide (b ≤ a ∧ a ≤ c)) := by
  unfold impl_InRange.f
  by_cases h : b ≤ a
  · rw [if_pos h]; simp [h]
  · rw [if_neg h, decide_eq_false (by omega)]

/-! ### impl_without2 -/
theorem impl_without_eq2 {a b : List Int} {k : Nat} (ha : a.length ≤ 1048576) (hb : b.length ≤ 1048576) (hk : a.length + b.length + 1 < k) : impl_without.f k a b = some (without a b) := by
  unfold impl_without.f
  have h := filter_loop (g := fun k acc i => impl_without.l0 k b acc a (a.length : Int) (i : Int)) (l := a) (z := 0) (B := b.length + 1) (p := fun x => !b.any (· == x)) (f := id) (fun k acc => by
      simp only [impl_without.l0]; rw [if_neg (by omega)])
    (fun k i acc hi hk hacc => by
      simp only [impl_without.l0]
      rw [if_pos (by omega), if_pos (by omega), if_pos (by omega), rd_cast, wrap_up (n := a.length) hi (by omega), slices_Contains_int_int_eq (by omega) (by omega), Option.bind_some]
      cases b.any (· == nt 0 a i) with
      | true => rfl
      | false => simp only [Bool.false_eq_true, if_false, Bool.not_false, if_true]; rw [if_pos (by omega)]; rfl) a.length k 0 [] (by omega) (by omega) (by simp)
  simpa [without] using h
theorem impl_isEnd_eq {n : Int} {e : List Bool} {l : List Mv} {x : Int} (he : e.length ≤ 1048576) : impl_isEnd.f n e l x = some (endAt e x) := by
  unfold impl_isEnd.f
  rw [wrap_id (by omega) (by omega), impl_InRange_eq, Option.bind_some, endAt_eq he]
  by_cases h : 0 ≤ x ∧ x < (e.length : Int)
  · rw [if_pos (by simp; omega), if_pos h.1, if_pos h.2, if_pos h, rdb_toNat e x h.1]
  · rw [if_neg (by simp; omega), if_neg h]

/-! ### impl_TroubleAt -/
theorem unread_within (l m : List Mv) (x y : Int) : ((without (movesFrom l x true) (movesFrom m y false)).length : Int) > 0 ↔ unread l m x y = true := by
  rw [without_pos]
  unfold within unread
  rw [List.all_eq_false, List.any_eq_true]
  constructor
  · rintro ⟨v, hv, hq⟩
    refine ⟨v, hv, ?_⟩
    have := moveOf_any m y false v
    rw [decide_eq_true_eq]
    by_cases q : moveOf m y false v < 0
    · exact q
    · exfalso
      exact hq (List.any_eq_true.2 ⟨v, this.1 (by omega), by simp⟩)
  · rintro ⟨v, hv, hq⟩
    refine ⟨v, hv, ?_⟩
    rw [decide_eq_true_eq] at hq
    intro h
    obtain ⟨u, hu, he⟩ := List.any_eq_true.1 h
    have : u = v := by simpa using he
    subst this
    have := (moveOf_any m y false u).2 hu
    omega
theorem impl_TroubleAt_eq {n n2 : Int} {e f : List Bool} {l m : List Mv} {x y : Int} {k : Nat} (he : e.length ≤ 1048576) (hf : f.length ≤ 1048576) (hl : l.length ≤ 1048576) (hm : m.length ≤ 1048576) (hk : 8000000 < k) : impl_TroubleAt.f k n e l n2 f m x y = some (troubleAt e l f m x y) := by
  have a1 := movesFrom_len l x true
  have a2 := movesFrom_len l x false
  have a3 := movesFrom_len m y true
  have a4 := movesFrom_len m y false
  unfold impl_TroubleAt.f troubleAt
  obtain ⟨k, rfl⟩ : ∃ k', k = k' + 1 := ⟨k - 1, by omega⟩
  have J : ∀ b, impl_TroubleAt.j0 (k + 1) x y b n e l n2 f m = some (if b = true then 1 else if decide ((nextPairs l m x y).length = 0) && !(endAt e x && endAt f y) then 2 else 0) := by
    intro b
    simp only [impl_TroubleAt.j0]
    cases b with
    | true => rfl
    | false =>
      rw [if_neg (by simp), if_neg (by simp), impl_NextPairs_eq hl hm (by omega), Option.bind_some, impl_isEnd_eq he, impl_isEnd_eq hf]
      by_cases q : (nextPairs l m x y).length = 0
      · rw [if_pos (by omega), decide_eq_true q]
        cases endAt e x <;> cases endAt f y <;> rfl
      · rw [if_neg (by omega), decide_eq_false q]; rfl
  rw [impl_MovesFrom_eq (by omega) (by omega), Option.bind_some, impl_MovesFrom_eq (by omega) (by omega), Option.bind_some, impl_without_eq2 (by omega) (by omega) (by omega), Option.bind_some,
    impl_MovesFrom_eq (by omega) (by omega), Option.bind_some, impl_MovesFrom_eq (by omega) (by omega), Option.bind_some, impl_without_eq2 (by omega) (by omega) (by omega), Option.bind_some]
  simp only [J]
  have u1 := unread_within l m x y
  have u2 := unread_within m l y x
  cases h1 : unread l m x y with
  | true => rw [if_pos (u1.2 h1)]; rfl
  | false =>
    rw [if_neg (fun q => by rw [u1.1 q] at h1; cases h1)]
    cases h2 : unread m l y x with
    | true => rw [decide_eq_true (u2.2 h2)]; rfl
    | false => rw [decide_eq_false (fun q => by rw [u2.1 q] at h2; cases h2)]; rfl

end FnExactTroubleAtAid
open FnExactTroubleAtAid

theorem FnExactTroubleAt : laws_FnExactTroubleAt.Pure := by
  intro a e m b f n x y ha he _ hm _ hb hf _ hn _ _ _
  obtain ⟨k, hk⟩ : ∃ k, k = 8000000 + 100 := ⟨_, rfl⟩
  refine ⟨k, ?_⟩
  unfold laws_FnExactTroubleAt.f
  rw [laws_szMachine_eq (by omega) (by omega) he hm, Option.bind_some]
  by_cases hb : (1048576 : Int) < e.length + m.length
  · rw [if_pos hb, if_pos (by omega)]
  · rw [if_neg hb, if_neg (by omega), laws_szMachine_eq (by omega) (by omega) hf hn, Option.bind_some]
    by_cases hc : (1048576 : Int) - (e.length + m.length) < f.length + n.length
    · rw [if_pos hc, if_pos (by omega)]
    · rw [if_neg hc, if_neg (by omega)]
      obtain ⟨M, hM⟩ : ∃ M, M = m.map convMv := ⟨_, rfl⟩
      have lM : M.length = m.length := by rw [hM]; exact List.length_map ..
      obtain ⟨N, hN⟩ : ∃ N, N = n.map convMv := ⟨_, rfl⟩
      have lN : N.length = n.length := by rw [hN]; exact List.length_map ..
      have f1 : laws_toMachine.f k a e m = some (a, e, M) := by rw [laws_toMachine_eq (by omega) (by omega) (by omega), hM]
      have f2 : laws_toMachine.f k b f n = some (b, f, N) := by rw [laws_toMachine_eq (by omega) (by omega) (by omega), hN]
      have f3 : laws_eqMachine.f k a e M a e M = some true := laws_eqMachine_self (by omega) (by omega) (by omega)
      have f4 : laws_eqMachine.f k b f N b f N = some true := laws_eqMachine_self (by omega) (by omega) (by omega)
      have f5 : spec_TroubleAt.f k a e M b f N x y = some (troubleAt e M f N x y) := spec_TroubleAt_eq (by omega) (by omega) (by omega) (by omega) (by omega)
      have f6 : impl_TroubleAt.f k a e M b f N x y = some (troubleAt e M f N x y) := impl_TroubleAt_eq (by omega) (by omega) (by omega) (by omega) (by omega)
      simp only [f1, f2, f3, f4, f5, f6, Option.bind_some, Bool.false_eq_true, if_true, if_false, ↓reduceIte, bne_self_eq_false, Bool.not_true, Bool.not_false, Nat.le_add_right, Nat.le_refl]

end Go.Proofs.Ytfnbfconhpppfaa.Pure
