/- FollowsAt of the program and of the reference agree on every two machines and states, as a statement over lists alone; the bounds are those of memory. -/
import Derived.Test.YtfnbfconhpppfaaPFnExactFollowsAtx7
import Derived.Test.YtfnbfconhpppfaaGb
import Derived.Test.YtfnbfconhpppfaaGr
import Derived.Test.YtfnbfconhpppfaaGm
namespace Go.Proofs.Ytfnbfconhpppfaa.Pure
open Go.RowKit Go.Proofs.Ytfnbfconhpppfaa.PFnExactFollowsAt Go.Proofs.YtfnbfconhpppfaaW.PrintWords Go.Proofs.YtfnbfconhpppfaaW.PrintLast Go.Proofs.Ytfnbfconhpppfaa.Gb Go.Proofs.Ytfnbfconhpppfaa.Gr Go.Proofs.Ytfnbfconhpppfaa.Gm Go.Proofs.Ytfnbfconhpppfaa
set_option linter.unusedSimpArgs false
set_option linter.unusedVariables false
namespace FnExactFollowsAtAid

/-! ### T_Move -/
abbrev Mv := S80
abbrev LMv := S102
abbrev zMv : Mv := z80
abbrev zLMv : LMv := z102
theorem rd_Mv (l : List Mv) (i : Nat) : rd_T80 l (i : Int) = nt zMv l i := by simp [rd_T80, nt]
theorem rd_LMv (l : List LMv) (i : Nat) : rd_T102 l (i : Int) = nt zLMv l i := by simp [rd_T102, nt]
def convMv (x : LMv) : Mv := ⟨x.f0, x.f1, x.f2, x.f3⟩
def sameMv (x y : Mv) : Bool := (x.f0 == y.f0) && ((x.f1 == y.f1) && ((x.f2 == y.f2) && (x.f3 == y.f3)))
theorem sameMv_self (x : Mv) : sameMv x x = true := by simp [sameMv]
def eqBs (a b : List Bool) : Bool := decide (a.length = b.length) && allFrom (fun i => nt false a i == nt false b i) 0 a.length
def eqMvs (a b : List Mv) : Bool := decide (a.length = b.length) && allFrom (fun i => sameMv (nt zMv a i) (nt zMv b i)) 0 a.length
theorem rdb_cast (xs : List Bool) (i : Nat) : rdOf false xs (i : Int) = nt false xs i := rdOf_cast false xs i

/-! ### laws_szMachine -/
theorem laws_szMachine_eq {x : Int} {e : List Bool} {m : List LMv} {a : Int} (h0 : 0 ≤ a) (h1 : a ≤ 1048576) (he : e.length ≤ 9223372036854775807) (hm : m.length ≤ 9223372036854775807) : laws_szMachine.f x e m a = some (if a < e.length + m.length then -1 else a - (e.length + m.length)) := by
  unfold laws_szMachine.f laws_szBoolS.f
  rw [wrap_id (by omega) (by omega)]
  by_cases h : a - e.length < (0 : Int)
  · rw [if_pos h, Option.bind_some, if_pos (by omega), if_pos (by omega)]
  · rw [if_neg h, Option.bind_some, if_neg h]
    unfold laws_szMoveS.f
    rw [wrap_id (by omega) (by omega)]
    by_cases h2 : a - e.length - m.length < (0 : Int)
    · rw [if_pos h2, Option.bind_some, if_pos (by omega), if_pos (by omega)]
    · rw [if_neg h2, Option.bind_some, if_neg h2, if_neg (by omega)]; congr 1; omega

/-! ### laws_toMachine -/
theorem laws_toBoolS_eq {l : List Bool} {k : Nat} (hl : l.length ≤ 1048576) (hk : l.length < k) : laws_toBoolS.f k l = some l := by
  unfold laws_toBoolS.f
  rw [if_pos (by omega), toNat_cast, if_pos (by omega)]
  have h := map_loop (g := fun k acc i => laws_toBoolS.l0 k l acc (i : Int)) (l := l) (z := false) (zb := false) (f := id) (B := 0) (fun k acc ha => by
      simp only [laws_toBoolS.l0]; rw [if_neg (by omega)])
    (fun k i acc hi _ ha => by
      simp only [laws_toBoolS.l0]
      rw [if_pos (by omega), if_pos (by omega), rdb_cast, if_pos (by omega), wrap_up (n := l.length) hi (by omega), toNat_cast]; rfl) l.length k 0 (by omega) (by omega)
  simpa using h
theorem laws_toMoveS_eq {l : List LMv} {k : Nat} (hl : l.length ≤ 1048576) (hk : l.length < k) : laws_toMoveS.f k l = some (l.map convMv) := by
  unfold laws_toMoveS.f
  rw [if_pos (by omega), toNat_cast, if_pos (by omega)]
  have h := map_loop (g := fun k acc i => laws_toMoveS.l0 k l acc (i : Int)) (l := l) (z := zLMv) (zb := zMv) (f := convMv) (B := 0) (fun k acc ha => by
      simp only [laws_toMoveS.l0]; rw [if_neg (by omega)])
    (fun k i acc hi _ ha => by
      simp only [laws_toMoveS.l0]
      rw [if_pos (by omega), if_pos (by omega), rd_LMv]
      simp only [laws_toMove.f, Option.bind_some]
      rw [if_pos (by omega), wrap_up (n := l.length) hi (by omega), toNat_cast]; rfl) l.length k 0 (by omega) (by omega)
  simpa using h
theorem laws_toMachine_eq {x : Int} {e : List Bool} {m : List LMv} {k : Nat} (he : e.length ≤ 1048576) (hm : m.length ≤ 1048576) (hk : 1048577 < k) : laws_toMachine.f k x e m = some (x, e, m.map convMv) := by
  unfold laws_toMachine.f
  rw [laws_toBoolS_eq he (by omega), Option.bind_some, laws_toMoveS_eq hm (by omega), Option.bind_some]

/-! ### laws_eqMachine -/
theorem laws_eqBoolS_self {l : List Bool} {k : Nat} (hl : l.length ≤ 9223372036854775807) (hk : l.length < k) : laws_eqBoolS.f k l l = some true := by
  unfold laws_eqBoolS.f
  rw [if_pos rfl]
  exact pass_loop (g := fun k i => laws_eqBoolS.l0 k l l (i : Int)) (n := l.length) (B := 0) (fun k => by
      simp only [laws_eqBoolS.l0]; rw [if_neg (by omega)])
    (fun k i hi hk => by
      simp only [laws_eqBoolS.l0]
      rw [if_pos (by omega), if_pos (by omega), if_pos (by omega), wrap_up (n := l.length) hi hl, if_neg (by simp)]) l.length k 0 (by omega) (by omega)
theorem laws_eqMoveS_self {l : List Mv} {k : Nat} (hl : l.length ≤ 9223372036854775807) (hk : l.length < k) : laws_eqMoveS.f k l l = some true := by
  unfold laws_eqMoveS.f
  rw [if_pos rfl]
  exact pass_loop (g := fun k i => laws_eqMoveS.l0 k l l (i : Int)) (n := l.length) (B := 0) (fun k => by
      simp only [laws_eqMoveS.l0]; rw [if_neg (by omega)])
    (fun k i hi hk => by
      simp only [laws_eqMoveS.l0]
      rw [if_pos (by omega), if_pos (by omega), if_pos (by omega), wrap_up (n := l.length) hi hl]
      simp only [laws_eqMove.f, if_true, bne_self_eq_false, Bool.false_eq_true, if_false, Option.bind_some]) l.length k 0 (by omega) (by omega)
theorem laws_eqMachine_self {x : Int} {e : List Bool} {m : List Mv} {k : Nat} (he : e.length ≤ 1048576) (hm : m.length ≤ 1048576) (hk : 1048577 < k) : laws_eqMachine.f k x e m x e m = some true := by
  unfold laws_eqMachine.f
  rw [if_pos rfl, laws_eqBoolS_self (by omega) (by omega), Option.bind_some, if_pos rfl, laws_eqMoveS_self (by omega) (by omega), Option.bind_some, if_pos rfl]

/-! ### T_MoveOf -/
def keyMv (a : Int) (s : Bool) (m : Int) (x : Mv) : Bool := (x.f0 == a) && ((x.f1 == s) && (x.f2 == m))
def moveOf (l : List Mv) (a : Int) (s : Bool) (m : Int) : Int := (l.findIdx? (keyMv a s m)).elim (-1) fun j => (j : Int)

/-! ### T_put -/
/-- (putI: a number put into an ascending list: the library text Gm.) -/
theorem putI_nil (x : Int) : putI [] x = [x] := rfl

/-! ### spec_l4Put -/
theorem spec_l4Put_l0 (x : Int) : ∀ (rest done : List Int) (k : Nat), done.length + rest.length ≤ 2097152 → rest.length < k → spec_l4Put.l0 k (done ++ rest) x (done.length : Int) = some (done ++ putI rest x) := by
  intro rest
  induction rest with
  | nil =>
    intro done k hl hk
    obtain ⟨k, rfl⟩ := succ_of hk
    simp only [List.length_nil, Nat.add_zero] at hl
    simp only [spec_l4Put.l0, List.append_nil, Option.bind_some, toNat_cast, List.take_length, List.drop_length, List.nil_append, List.length_nil, List.length_singleton, List.length_append, Nat.zero_add, Nat.add_zero]
    rw [if_neg (by omega), if_pos (by omega), if_pos (by omega), if_pos (by omega), if_pos (by omega), if_pos (by omega)]
    rfl
  | cons y r ih =>
    intro done k hl hk
    obtain ⟨k, rfl⟩ := succ_of hk
    simp only [List.length_cons] at hl hk
    have ht : (done ++ y :: r).take done.length = done := by simp
    have hd : (done ++ y :: r).drop done.length = y :: r := by simp
    have hn : (done ++ y :: r).length = done.length + r.length + 1 := len_at done r y
    simp only [spec_l4Put.l0, Option.bind_some, toNat_cast, ht, hd, List.nil_append, List.length_nil, Nat.zero_add]
    rw [if_pos (by omega), if_pos (by omega), rd_cast, nt_at]
    simp only [putI]
    by_cases h1 : y < x
    · rw [if_pos h1, if_pos h1, wrap_up (n := done.length + 1) (by omega) (by omega)]
      have e := ih (done ++ [y]) k (by rw [len_snoc]; omega) (by omega)
      rw [List.append_assoc, List.singleton_append, len_snoc] at e
      rw [e, List.append_assoc]; rfl
    · rw [if_neg h1, if_neg h1]
      by_cases h2 : y = x
      · rw [if_pos h2, if_pos h2, if_pos (by omega)]
      · rw [if_neg h2, if_neg h2, if_pos (by omega), if_pos (by omega)]
        simp only [List.length_append, List.length_singleton, List.length_cons, List.length_nil, Nat.add_zero, Nat.zero_add]
        rw [if_pos (by omega), if_pos (by omega), List.append_assoc]; rfl
theorem spec_l4Put_eq {l : List Int} {x : Int} {k : Nat} (hl : l.length ≤ 1048576) (hk : l.length < k) : spec_l4Put.f k l x = some (putI l x) := by
  unfold spec_l4Put.f
  exact spec_l4Put_l0 x l [] k (by simp; omega) hk

/-! ### spec_MovesFrom -/
def fromMv (a : Int) (s : Bool) (x : Mv) : Bool := (x.f0 == a) && (x.f1 == s)
def movesFrom (l : List Mv) (a : Int) (s : Bool) : List Int := l.foldl (fun acc x => if fromMv a s x = true then putI acc x.f2 else acc) []
theorem spec_MovesFrom_eq {n : Int} {e : List Bool} {l : List Mv} {a : Int} {s : Bool} {k : Nat} (hl : l.length ≤ 1048576) (hk : 2 * l.length + 2 < k) : spec_MovesFrom.f k n e l a s = some (movesFrom l a s) := by
  unfold spec_MovesFrom.f
  have h := fold_loop (g := fun k acc i => spec_MovesFrom.l0 k a s acc (i : Int) n e l) (n := l.length) (B := l.length + 1) (f := fun i acc => if fromMv a s (nt zMv l i) = true then putI acc (nt zMv l i).f2 else acc) (fin := fun acc => acc) (fun i acc => acc.length ≤ i) (fun k acc _ => by
      simp only [spec_MovesFrom.l0]; rw [if_neg (by omega)])
    (fun k i acc hi hk ha => by
      constructor
      · simp only [spec_MovesFrom.l0]
        rw [if_pos (by omega), if_pos (by omega), rd_Mv, wrap_up (n := l.length) hi (by omega)]
        by_cases h1 : (nt zMv l i).f0 = a
        · rw [if_pos h1]
          cases h2 : ((nt zMv l i).f1 == s) with
          | true => rw [if_pos rfl, if_pos (by simp [fromMv, h1, h2]), spec_l4Put_eq (by omega) (by omega), Option.bind_some]
          | false => rw [if_neg (by simp), if_neg (by simp [fromMv, h2])]
        · rw [if_neg h1, if_neg (by simp [fromMv, h1])]
      · have := putI_length acc (nt zMv l i).f2
        by_cases hq : fromMv a s (nt zMv l i) = true
        · rw [if_pos hq]; omega
        · rw [if_neg hq]; omega) l.length k 0 [] (by omega) (by omega) (by simp)
  have h2 := foldFrom_list (f := fun (acc : List Int) x => if fromMv a s x = true then putI acc x.f2 else acc) (l := l) (z := zMv) (s := [])
  rw [h2] at h
  simpa [movesFrom] using h
theorem movesFrom_nonempty (a : Int) (s : Bool) : ∀ (l : List Mv) (acc : List Int), (0 < (l.foldl (fun acc x => if fromMv a s x = true then putI acc x.f2 else acc) acc).length) ↔ (0 < acc.length ∨ l.any (fromMv a s) = true)
  | [], acc => by simp
  | x :: r, acc => by
    rw [List.foldl_cons, movesFrom_nonempty a s r, List.any_cons]
    have := putI_length acc x.f2
    by_cases h : fromMv a s x = true
    · rw [if_pos h, h]; simp; omega
    · rw [if_neg h]; simp [h]

/-! ### impl_MovesFrom -/
theorem movesFrom_sort (l : List Mv) (a : Int) (s : Bool) : movesFrom l a s = sortUniq ((l.filter (fromMv a s)).map (·.f2)) := by
  rw [sortUniq_eq]
  unfold movesFrom
  have : ∀ (l : List Mv) (acc : List Int), l.foldl (fun acc x => if fromMv a s x = true then putI acc x.f2 else acc) acc = ((l.filter (fromMv a s)).map (·.f2)).foldl putI acc := by
    intro l
    induction l with
    | nil => intro acc; rfl
    | cons x r ih =>
      intro acc
      rw [List.foldl_cons, List.filter_cons, ih]
      by_cases h : fromMv a s x = true
      · rw [if_pos h, if_pos h]; rfl
      · rw [if_neg h, if_neg h]
  exact this l []
theorem impl_MovesFrom_eq {n : Int} {e : List Bool} {l : List Mv} {a : Int} {s : Bool} {k : Nat} (hl : l.length ≤ 1048576) (hk : l.length < k) : impl_MovesFrom.f k n e l a s = some (movesFrom l a s) := by
  unfold impl_MovesFrom.f
  have h := filter_loopC (g := fun k acc i => impl_MovesFrom.l0 k a s acc l (l.length : Int) (i : Int)) (l := l) (z := zMv) (B := 0) (p := fromMv a s) (f := fun x => x.f2) (fin := fun acc => some (sortUniq acc)) (fun k acc _ ha => by
      simp only [impl_MovesFrom.l0]
      rw [if_neg (by omega)]
      unfold slices_Sort_int_int.f slices_Compact_int_int.f
      rw [if_pos (by omega), Option.bind_some, Option.bind_some]; rfl)
    (fun k i acc hi _ hacc => by
      simp only [impl_MovesFrom.l0]
      rw [if_pos (by omega), if_pos (by omega), if_pos (by omega), rd_Mv, wrap_up (n := l.length) hi (by omega)]
      by_cases h1 : (nt zMv l i).f0 = a
      · rw [if_pos h1]
        cases h2 : ((nt zMv l i).f1 == s) with
        | true => rw [if_pos rfl, if_pos (show acc.length < 17592186044416 by omega), if_pos (by simp [fromMv, h1, h2])]
        | false => rw [if_neg (by simp), if_neg (by simp [fromMv, h2])]
      · rw [if_neg h1, if_neg (by simp [fromMv, h1])]) l.length k 0 [] (by omega) (by omega) (by simp)
  rw [movesFrom_sort]
  simpa using h
theorem movesFrom_len (l : List Mv) (a : Int) (s : Bool) : (movesFrom l a s).length ≤ l.length := by
  rw [movesFrom_sort]; unfold sortUniq
  refine Nat.le_trans (compact_len _) ?_
  rw [List.length_mergeSort, List.length_map]
  exact List.length_filter_le _ _
theorem movesFrom_strict (l : List Mv) (a : Int) (s : Bool) : (movesFrom l a s).Pairwise (· < ·) := by rw [movesFrom_sort]; exact (sortUniq_spec _).1
theorem mem_movesFrom {l : List Mv} {a : Int} {s : Bool} {v : Int} : v ∈ movesFrom l a s ↔ ∃ x ∈ l, fromMv a s x = true ∧ x.f2 = v := by
  rw [movesFrom_sort, (sortUniq_spec _).2, List.mem_map]
  constructor
  · rintro ⟨x, hx, rfl⟩; rw [List.mem_filter] at hx; exact ⟨x, hx.1, hx.2, rfl⟩
  · rintro ⟨x, hx, h, rfl⟩; exact ⟨x, List.mem_filter.2 ⟨hx, h⟩, rfl⟩

/-! ### T_moves -/
theorem moveOf_any (l : List Mv) (a : Int) (s : Bool) (v : Int) : 0 ≤ moveOf l a s v ↔ v ∈ movesFrom l a s := by
  rw [mem_movesFrom]
  have h := idx_any (keyMv a s v) l
  have e : decide (moveOf l a s v ≥ 0) = l.any (keyMv a s v) := h
  constructor
  · intro q
    rw [decide_eq_true (show moveOf l a s v ≥ 0 from q)] at e
    obtain ⟨x, hx, hk⟩ := List.any_eq_true.1 e.symm
    simp only [keyMv, Bool.and_eq_true, beq_iff_eq] at hk
    exact ⟨x, hx, by simp [fromMv, hk.1, hk.2.1], hk.2.2⟩
  · rintro ⟨x, hx, hf, rfl⟩
    have : l.any (keyMv a s x.f2) = true := List.any_eq_true.2 ⟨x, hx, by simp only [fromMv, Bool.and_eq_true, beq_iff_eq] at hf; simp [keyMv, hf.1, hf.2]⟩
    rw [this] at e
    exact of_decide_eq_true e

/-! ### T_pairs -/
/-- Is every number of a among those of b? -/
def within (a b : List Int) : Bool := a.all fun x => b.any (· == x)
def without (a b : List Int) : List Int := a.filter fun x => !b.any (· == x)
def endAt (e : List Bool) (x : Int) : Bool := decide (0 ≤ x ∧ x ≤ (e.length : Int) - 1) && nt false e x.toNat
theorem without_pos (a b : List Int) : ((without a b).length : Int) > 0 ↔ within a b = false := by
  unfold without within
  rw [List.all_eq_false]
  constructor
  · intro h
    obtain ⟨x, hx⟩ := List.exists_mem_of_length_pos (l := a.filter fun x => !b.any (· == x)) (by omega)
    rw [List.mem_filter] at hx
    exact ⟨x, hx.1, fun h => by have h2 := hx.2; rw [h] at h2; cases h2⟩
  · rintro ⟨x, hx, hq⟩
    have : x ∈ a.filter fun x => !b.any (· == x) := List.mem_filter.2 ⟨hx, by rw [Bool.eq_false_iff.2 hq]; rfl⟩
    have := List.length_pos_of_mem this
    omega
theorem endAt_eq {e : List Bool} {x : Int} (he : e.length ≤ 1048576) : endAt e x = if 0 ≤ x ∧ x < (e.length : Int) then nt false e x.toNat else false := by
  unfold endAt
  by_cases h : 0 ≤ x ∧ x < (e.length : Int)
  · rw [if_pos h, decide_eq_true (by omega), Bool.true_and]
  · rw [if_neg h, decide_eq_false (by omega), Bool.false_and]
theorem rdb_toNat (e : List Bool) (x : Int) (h : 0 ≤ x) : rdOf false e x = nt false e x.toNat := by
  have := rdb_cast e x.toNat
  rwa [Int.toNat_of_nonneg h] at this

/-! ### spec_l1In -/
theorem spec_l1In_eq (a b c : Int) : spec_l1In.f a b c = some (decide (b ≤ a ∧ a ≤ c)) := by
  unfold spec_l1In.f
  by_cases h : a ≥ b
  · rw [if_pos h]; simp [show b ≤ a from h]
  · rw [if_neg h, decide_eq_false (by omega)]

/-! ### spec_l14End -/
theorem spec_l14End_eq {n : Int} {e : List Bool} {l : List Mv} {x : Int} (he : e.length ≤ 1048576) : spec_l14End.f n e l x = some (endAt e x) := by
  unfold spec_l14End.f
  rw [wrap_id (by omega) (by omega), spec_l1In_eq, Option.bind_some, endAt_eq he]
  by_cases h : 0 ≤ x ∧ x < (e.length : Int)
  · rw [if_pos (by simp; omega), if_pos h.1, if_pos h.2, if_pos h, rdb_toNat e x h.1]
  · rw [if_neg (by simp; omega), if_neg h]

/-! ### spec_l9Has -/
theorem spec_l9Has_eq {l : List Int} {n : Int} {k : Nat} (hl : l.length ≤ 9223372036854775807) (hk : l.length < k) : spec_l9Has.f k l n = some (l.any (· == n)) := by
  unfold spec_l9Has.f
  have h := any_loop (g := fun k i => spec_l9Has.l0 k l n (i : Int)) (l := l) (z := 0) (B := 0) (p := (· == n)) (fun k => by
      simp only [spec_l9Has.l0]; rw [if_neg (by omega)])
    (fun k i hi _ => by
      simp only [spec_l9Has.l0]
      rw [if_pos (by omega), if_pos (by omega), wrap_up (n := l.length) hi hl, rd_cast]
      by_cases e : nt 0 l i = n
      · rw [if_pos e, if_pos (by simp [e])]
      · rw [if_neg e, if_neg (by simp [e])]) l.length k 0 (by omega) (by omega)
  exact h

/-! ### spec_FollowsAt -/
def followsAt (e : List Bool) (l : List Mv) (f : List Bool) (m : List Mv) (x y : Int) : Bool :=
  within (movesFrom m y false) (movesFrom l x false) && (within (movesFrom l x true) (movesFrom m y true) && (decide (0 < (movesFrom m y true).length) == decide (0 < (movesFrom l x true).length) && (!(decide ((movesFrom m y false).length = 0) && decide (0 < (movesFrom l x false).length)) && (endAt e x || !endAt f y))))
theorem spec_l15Within_eq {a b : List Int} {k : Nat} (ha : a.length ≤ 1048576) (hb : b.length ≤ 1048576) (hk : a.length + b.length + 1 < k) : spec_l15Within.f k a b = some (within a b) := by
  unfold spec_l15Within.f
  have h := all_loop (g := fun k i => spec_l15Within.l0 k a b (i : Int)) (n := a.length) (B := b.length + 1) (ok := fun i => (fun x => b.any (· == x)) (nt 0 a i)) (fin := true) (fun k => by
      simp only [spec_l15Within.l0]; rw [if_neg (by omega)])
    (fun k i hi hk => by
      simp only [spec_l15Within.l0]
      rw [if_pos (by omega), if_pos (by omega), rd_cast, wrap_up (n := a.length) hi (by omega), spec_l9Has_eq (by omega) (by omega), Option.bind_some]) a.length k 0 (by omega) (by omega)
  exact (h.trans (congrArg (fun b => some (b && true)) (allFrom_all (fun x => b.any (· == x)) 0 a))).trans (by simp [within])
theorem spec_FollowsAt_eq {n n2 : Int} {e f : List Bool} {l m : List Mv} {x y : Int} {k : Nat} (he : e.length ≤ 1048576) (hf : f.length ≤ 1048576) (hl : l.length ≤ 1048576) (hm : m.length ≤ 1048576) (hk : 4000000 < k) : spec_FollowsAt.f k n e l n2 f m x y = some (followsAt e l f m x y) := by
  have a1 := movesFrom_len l x true
  have a2 := movesFrom_len l x false
  have a3 := movesFrom_len m y true
  have a4 := movesFrom_len m y false
  unfold spec_FollowsAt.f
  rw [spec_MovesFrom_eq (by omega) (by omega), Option.bind_some, spec_MovesFrom_eq (by omega) (by omega), Option.bind_some, spec_MovesFrom_eq (by omega) (by omega), Option.bind_some, spec_MovesFrom_eq (by omega) (by omega), Option.bind_some,
    spec_l15Within_eq (by omega) (by omega) (by omega), Option.bind_some, spec_l15Within_eq (by omega) (by omega) (by omega)]
  obtain ⟨k, rfl⟩ : ∃ k', k = k' + 1 := ⟨k - 1, by omega⟩
  have J : ∀ b, spec_FollowsAt.j0 (k + 1) x y b n e l n2 f m = some (if b = true then false else (endAt e x || !endAt f y)) := by
    intro b
    simp only [spec_FollowsAt.j0]
    cases b with
    | true => rfl
    | false =>
      rw [if_neg (by simp), if_neg (by simp), spec_l14End_eq hf, Option.bind_some, spec_l14End_eq he]
      cases endAt f y <;> cases endAt e x <;> rfl
  simp only [J, Option.bind_some]
  unfold followsAt
  cases within (movesFrom m y false) (movesFrom l x false) with
  | false => rfl
  | true =>
    cases within (movesFrom l x true) (movesFrom m y true) with
    | false => rfl
    | true =>
      simp only [if_true]
      have e1 : decide (((movesFrom m y true).length : Int) > 0) = decide (0 < (movesFrom m y true).length) := decide_eq_decide.2 (by omega)
      have e2 : decide (((movesFrom l x true).length : Int) > 0) = decide (0 < (movesFrom l x true).length) := decide_eq_decide.2 (by omega)
      have e3 : decide (((movesFrom l x false).length : Int) > 0) = decide (0 < (movesFrom l x false).length) := decide_eq_decide.2 (by omega)
      rw [e1, e2, e3]
      cases decide (0 < (movesFrom m y true).length) <;> cases decide (0 < (movesFrom l x true).length) <;> simp <;> by_cases q : movesFrom m y false = [] <;> simp [q] <;> cases decide (0 < (movesFrom l x false).length) <;> simp_all

/-! ### slices_Index_int_int -/
theorem slices_Index_int_int_eq {l : List Int} {n : Int} {k : Nat} (hl : l.length ≤ 9223372036854775807) (hk : l.length < k) : slices_Index_int_int.f k l n = some ((l.findIdx? (· == n)).elim (-1) fun j => (j : Int)) := by
  unfold slices_Index_int_int.f
  have h := find_loop (g := fun k i => slices_Index_int_int.l0 k l n (l.length : Int) (i : Int)) (l := l) (z := 0) (B := 0) (p := (· == n)) (hit := fun j => (j : Int)) (miss := (-1 : Int)) (fun k => by
      simp only [slices_Index_int_int.l0]; rw [if_neg (by omega)])
    (fun k i hi _ => by
      simp only [slices_Index_int_int.l0]
      rw [if_pos (by omega), if_pos (by omega), if_pos (by omega), wrap_up (n := l.length) hi hl, rd_cast]
      by_cases e : nt 0 l i = n
      · rw [if_pos e.symm, if_pos (by simp [e])]
      · rw [if_neg (fun h => e h.symm), if_neg (by simp [e])]) l.length k 0 (by omega) (by omega)
  simpa using h

/-! ### slices_Contains_int_int -/
theorem slices_Contains_int_int_eq {l : List Int} {n : Int} {k : Nat} (hl : l.length ≤ 9223372036854775807) (hk : l.length < k) : slices_Contains_int_int.f k l n = some (l.any (· == n)) := by
  unfold slices_Contains_int_int.f
  rw [slices_Index_int_int_eq hl hk, Option.bind_some, idx_any]

/-! ### impl_InRange -/
theorem impl_InRange_eq (a b c : Int) : impl_InRange.f a b c = some (decide (b ≤ a ∧ a ≤ c)) := by
  unfold impl_InRange.f
  by_cases h : b ≤ a
  · rw [if_pos h]; simp [h]
  · rw [if_neg h, decide_eq_false (by omega)]

/-! ### impl_without2 -/
theorem impl_without_eq2 {a b : List Int} {k : Nat} (ha : a.length ≤ 1048576) (hb : b.length ≤ 1048576) (hk : a.length + b.length + 1 < k) : impl_without.f k a b = some (without a b) := by
  unfold impl_without.f
  have h := filter_loop (g := fun k acc i => impl_without.l0 k b acc a (a.length : Int) (i : Int)) (l := a) (z := 0) (B := b.length + 1) (p := fun x => !b.any (· == x)) (f := id) (fun k acc => by
      simp only [impl_without.l0]; rw [if_neg (by omega)])
    (fun k i acc hi hk hacc => by
      simp only [impl_without.l0]
      rw [if_pos (by omega), if_pos (by omega), if_pos (by omega), rd_cast, wrap_up (n := a.length) hi (by omega), slices_Contains_int_int_eq (by omega) (by omega), Option.bind_some]
      cases b.any (· == nt 0 a i) with
      | true => rfl
      | false => simp only [Bool.false_eq_true, if_false, Bool.not_false, if_true]; rw [if_pos (by omega)]; rfl) a.length k 0 [] (by omega) (by omega) (by simp)
  simpa [without] using h
theorem impl_isEnd_eq {n : Int} {e : List Bool} {l : List Mv} {x : Int} (he : e.length ≤ 1048576) : impl_isEnd.f n e l x = some (endAt e x) := by
  unfold impl_isEnd.f
  rw [wrap_id (by omega) (by omega), impl_InRange_eq, Option.bind_some, endAt_eq he]
  by_cases h : 0 ≤ x ∧ x < (e.length : Int)
  · rw [if_pos (by simp; omega), if_pos h.1, if_pos h.2, if_pos h, rdb_toNat e x h.1]
  · rw [if_neg (by simp; omega), if_neg h]

/-! ### impl_FollowsAt -/
theorem impl_FollowsAt_eq {n n2 : Int} {e f : List Bool} {l m : List Mv} {x y : Int} {k : Nat} (he : e.length ≤ 1048576) (hf : f.length ≤ 1048576) (hl : l.length ≤ 1048576) (hm : m.length ≤ 1048576) (hk : 4000000 < k) : impl_FollowsAt.f k n e l n2 f m x y = some (followsAt e l f m x y) := by
  have a1 := movesFrom_len l x true
  have a2 := movesFrom_len l x false
  have a3 := movesFrom_len m y true
  have a4 := movesFrom_len m y false
  unfold impl_FollowsAt.f
  rw [impl_MovesFrom_eq (by omega) (by omega), Option.bind_some, impl_MovesFrom_eq (by omega) (by omega), Option.bind_some, impl_MovesFrom_eq (by omega) (by omega), Option.bind_some, impl_MovesFrom_eq (by omega) (by omega), Option.bind_some,
    impl_without_eq2 (by omega) (by omega) (by omega), Option.bind_some, impl_without_eq2 (by omega) (by omega) (by omega)]
  obtain ⟨k, rfl⟩ : ∃ k', k = k' + 2 := ⟨k - 2, by omega⟩
  have J : ∀ k b, impl_FollowsAt.j1 (k + 1) x y b n e l n2 f m = some (if b = true then false else (endAt e x || !endAt f y)) := by
    intro k b
    simp only [impl_FollowsAt.j1]
    cases b with
    | true => rfl
    | false =>
      rw [if_neg (by simp), if_neg (by simp), impl_isEnd_eq he, Option.bind_some, impl_isEnd_eq hf]
      cases endAt f y <;> cases endAt e x <;> rfl
  simp only [impl_FollowsAt.j0, J, Option.bind_some]
  unfold followsAt
  have w1 := without_pos (movesFrom m y false) (movesFrom l x false)
  have w2 := without_pos (movesFrom l x true) (movesFrom m y true)
  cases h1 : within (movesFrom m y false) (movesFrom l x false) with
  | false => rw [if_pos (w1.2 h1)]; rfl
  | true =>
    rw [if_neg (fun q => by rw [w1.1 q] at h1; cases h1)]
    cases h2 : within (movesFrom l x true) (movesFrom m y true) with
    | false => rw [decide_eq_true (w2.2 h2)]; rfl
    | true =>
      rw [decide_eq_false (fun q => by rw [w2.1 q] at h2; cases h2)]
      have e1 : decide (((movesFrom m y true).length : Int) > 0) = decide (0 < (movesFrom m y true).length) := decide_eq_decide.2 (by omega)
      have e2 : decide (((movesFrom l x true).length : Int) > 0) = decide (0 < (movesFrom l x true).length) := decide_eq_decide.2 (by omega)
      have e3 : decide (((movesFrom l x false).length : Int) > 0) = decide (0 < (movesFrom l x false).length) := decide_eq_decide.2 (by omega)
      rw [e1, e2, e3]
      cases decide (0 < (movesFrom m y true).length) <;> cases decide (0 < (movesFrom l x true).length) <;> simp <;> by_cases q : movesFrom m y false = [] <;> simp [q] <;> cases decide (0 < (movesFrom l x false).length) <;> simp_all

end FnExactFollowsAtAid
open FnExactFollowsAtAid

theorem FnExactFollowsAt : laws_FnExactFollowsAt.Pure := by
  intro a e m b f n x y ha he _ hm _ hb hf _ hn _ _ _
  obtain ⟨k, hk⟩ : ∃ k, k = 4000000 + 100 := ⟨_, rfl⟩
  refine ⟨k, ?_⟩
  unfold laws_FnExactFollowsAt.f
  rw [laws_szMachine_eq (by omega) (by omega) he hm, Option.bind_some]
  by_cases hb : (1048576 : Int) < e.length + m.length
  · rw [if_pos hb, if_pos (by omega)]
  · rw [if_neg hb, if_neg (by omega), laws_szMachine_eq (by omega) (by omega) hf hn, Option.bind_some]
    by_cases hc : (1048576 : Int) - (e.length + m.length) < f.length + n.length
    · rw [if_pos hc, if_pos (by omega)]
    · rw [if_neg hc, if_neg (by omega)]
      obtain ⟨M, hM⟩ : ∃ M, M = m.map convMv := ⟨_, rfl⟩
      have lM : M.length = m.length := by rw [hM]; exact List.length_map ..
      obtain ⟨N, hN⟩ : ∃ N, N = n.map convMv := ⟨_, rfl⟩
      have lN : N.length = n.length := by rw [hN]; exact List.length_map ..
      have f1 : laws_toMachine.f k a e m = some (a, e, M) := by rw [laws_toMachine_eq (by omega) (by omega) (by omega), hM]
      have f2 : laws_toMachine.f k b f n = some (b, f, N) := by rw [laws_toMachine_eq (by omega) (by omega) (by omega), hN]
      have f3 : laws_eqMachine.f k a e M a e M = some true := laws_eqMachine_self (by omega) (by omega) (by omega)
      have f4 : laws_eqMachine.f k b f N b f N = some true := laws_eqMachine_self (by omega) (by omega) (by omega)
      have f5 : spec_FollowsAt.f k a e M b f N x y = some (followsAt e M f N x y) := spec_FollowsAt_eq (by omega) (by omega) (by omega) (by omega) (by omega)
      have f6 : impl_FollowsAt.f k a e M b f N x y = some (followsAt e M f N x y) := impl_FollowsAt_eq (by omega) (by omega) (by omega) (by omega) (by omega)
      simp only [f1, f2, f3, f4, f5, f6, Option.bind_some, Bool.false_eq_true, if_true, if_false, ↓reduceIte, bne_self_eq_false, Bool.not_true, Bool.not_false, Nat.le_add_right, Nat.le_refl]

end Go.Proofs.Ytfnbfconhpppfaa.Pure
