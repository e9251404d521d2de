/- PairsOf of the program and of the reference agree on every two machines, as a statement over lists alone; the bounds are those of memory. -/
import Derived.Test.YtmenijbpglknbaaPFnExactPairsOfx11
import Derived.Test.YtmenijbpglknbaaGb
import Derived.Test.YtmenijbpglknbaaGr
import Derived.Test.YtmenijbpglknbaaGm
namespace Go.Proofs.Ytmenijbpglknbaa.Pure
open Go.RowKit Go.Proofs.Ytmenijbpglknbaa.PFnExactPairsOf Go.Proofs.YtmenijbpglknbaaW.PrintWords Go.Proofs.YtmenijbpglknbaaW.PrintLast Go.Proofs.Ytmenijbpglknbaa.Gb Go.Proofs.Ytmenijbpglknbaa.Gr Go.Proofs.Ytmenijbpglknbaa.Gm Go.Proofs.Ytmenijbpglknbaa
set_option linter.unusedSimpArgs false
set_option linter.unusedVariables false
namespace FnExactPairsOfAid

/-! ### T_Move -/
abbrev Mv := S64
abbrev zMv : Mv := z64
theorem rd_Mv (l : List Mv) (i : Nat) : rd_T64 l (i : Int) = nt zMv l i := by simp [rd_T64, nt]
def sameMv (x y : Mv) : Bool := (x.f0 == y.f0) && ((x.f1 == y.f1) && ((x.f2 == y.f2) && (x.f3 == y.f3)))
theorem sameMv_self (x : Mv) : sameMv x x = true := by simp [sameMv]
def eqBs (a b : List Bool) : Bool := decide (a.length = b.length) && allFrom (fun i => nt false a i == nt false b i) 0 a.length
def eqMvs (a b : List Mv) : Bool := decide (a.length = b.length) && allFrom (fun i => sameMv (nt zMv a i) (nt zMv b i)) 0 a.length
theorem rdb_cast (xs : List Bool) (i : Nat) : rdOf false xs (i : Int) = nt false xs i := rdOf_cast false xs i

/-! ### T_LMove -/
abbrev LMv := S69
abbrev zLMv : LMv := z69
theorem rd_LMv (l : List LMv) (i : Nat) : rd_T69 l (i : Int) = nt zLMv l i := by simp [rd_T69, nt]
def convMv (x : LMv) : Mv := ⟨x.f0, x.f1, x.f2, x.f3⟩

/-! ### laws_szMachine -/
theorem laws_szMachine_eq {x : Int} {e : List Bool} {m : List LMv} {a : Int} (h0 : 0 ≤ a) (h1 : a ≤ 1048576) (he : e.length ≤ 9223372036854775807) (hm : m.length ≤ 9223372036854775807) : laws_szMachine.f x e m a = some (if a < e.length + m.length then -1 else a - (e.length + m.length)) := by
  unfold laws_szMachine.f laws_szBoolS.f
  rw [wrap_id (by omega) (by omega)]
  by_cases h : a - e.length < (0 : Int)
  · rw [if_pos h, Option.bind_some, if_pos (by omega), if_pos (by omega)]
  · rw [if_neg h, Option.bind_some, if_neg h]
    unfold laws_szMoveS.f
    rw [wrap_id (by omega) (by omega)]
    by_cases h2 : a - e.length - m.length < (0 : Int)
    · rw [if_pos h2, Option.bind_some, if_pos (by omega), if_pos (by omega)]
    · rw [if_neg h2, Option.bind_some, if_neg h2, if_neg (by omega)]; congr 1; omega

/-! ### laws_toMachine -/
theorem laws_toBoolS_eq {l : List Bool} {k : Nat} (hl : l.length ≤ 1048576) (hk : l.length < k) : laws_toBoolS.f k l = some l := by
  unfold laws_toBoolS.f
  rw [if_pos (by omega), toNat_cast, if_pos (by omega)]
  have h := map_loop (g := fun k acc i => laws_toBoolS.l0 k l acc (i : Int)) (l := l) (z := false) (zb := false) (f := id) (B := 0) (fun k acc ha => by
      simp only [laws_toBoolS.l0]; rw [if_neg (by omega)])
    (fun k i acc hi _ ha => by
      simp only [laws_toBoolS.l0]
      rw [if_pos (by omega), if_pos (by omega), rdb_cast, if_pos (by omega), wrap_up (n := l.length) hi (by omega), toNat_cast]; rfl) l.length k 0 (by omega) (by omega)
  simpa using h
theorem laws_toMoveS_eq {l : List LMv} {k : Nat} (hl : l.length ≤ 1048576) (hk : l.length < k) : laws_toMoveS.f k l = some (l.map convMv) := by
  unfold laws_toMoveS.f
  rw [if_pos (by omega), toNat_cast, if_pos (by omega)]
  have h := map_loop (g := fun k acc i => laws_toMoveS.l0 k l acc (i : Int)) (l := l) (z := zLMv) (zb := zMv) (f := convMv) (B := 0) (fun k acc ha => by
      simp only [laws_toMoveS.l0]; rw [if_neg (by omega)])
    (fun k i acc hi _ ha => by
      simp only [laws_toMoveS.l0]
      rw [if_pos (by omega), if_pos (by omega), rd_LMv]
      simp only [laws_toMove.f, Option.bind_some]
      rw [if_pos (by omega), wrap_up (n := l.length) hi (by omega), toNat_cast]; rfl) l.length k 0 (by omega) (by omega)
  simpa using h
theorem laws_toMachine_eq {x : Int} {e : List Bool} {m : List LMv} {k : Nat} (he : e.length ≤ 1048576) (hm : m.length ≤ 1048576) (hk : 1048577 < k) : laws_toMachine.f k x e m = some (x, e, m.map convMv) := by
  unfold laws_toMachine.f
  rw [laws_toBoolS_eq he (by omega), Option.bind_some, laws_toMoveS_eq hm (by omega), Option.bind_some]

/-! ### laws_eqMachine -/
theorem laws_eqBoolS_self {l : List Bool} {k : Nat} (hl : l.length ≤ 9223372036854775807) (hk : l.length < k) : laws_eqBoolS.f k l l = some true := by
  unfold laws_eqBoolS.f
  rw [if_pos rfl]
  exact pass_loop (g := fun k i => laws_eqBoolS.l0 k l l (i : Int)) (n := l.length) (B := 0) (fun k => by
      simp only [laws_eqBoolS.l0]; rw [if_neg (by omega)])
    (fun k i hi hk => by
      simp only [laws_eqBoolS.l0]
      rw [if_pos (by omega), if_pos (by omega), if_pos (by omega), wrap_up (n := l.length) hi hl, if_neg (by simp)]) l.length k 0 (by omega) (by omega)
theorem laws_eqMoveS_self {l : List Mv} {k : Nat} (hl : l.length ≤ 9223372036854775807) (hk : l.length < k) : laws_eqMoveS.f k l l = some true := by
  unfold laws_eqMoveS.f
  rw [if_pos rfl]
  exact pass_loop (g := fun k i => laws_eqMoveS.l0 k l l (i : Int)) (n := l.length) (B := 0) (fun k => by
      simp only [laws_eqMoveS.l0]; rw [if_neg (by omega)])
    (fun k i hi hk => by
      simp only [laws_eqMoveS.l0]
      rw [if_pos (by omega), if_pos (by omega), if_pos (by omega), wrap_up (n := l.length) hi hl]
      simp only [laws_eqMove.f, if_true, bne_self_eq_false, Bool.false_eq_true, if_false, Option.bind_some]) l.length k 0 (by omega) (by omega)
theorem laws_eqMachine_self {x : Int} {e : List Bool} {m : List Mv} {k : Nat} (he : e.length ≤ 1048576) (hm : m.length ≤ 1048576) (hk : 1048577 < k) : laws_eqMachine.f k x e m x e m = some true := by
  unfold laws_eqMachine.f
  rw [if_pos rfl, laws_eqBoolS_self (by omega) (by omega), Option.bind_some, if_pos rfl, laws_eqMoveS_self (by omega) (by omega), Option.bind_some, if_pos rfl]

/-! ### laws_markMachine -/
def markBs : Int → List Bool → List Bool
  | _, [] => []
  | a, _ :: r => (Int.tmod a 3 == 0) :: markBs (a + 1) r
def markMvs : Int → List Mv → List Mv
  | _, [] => []
  | a, _ :: r => (⟨a, (Int.tmod (a + 1) 3 == 0), a + 2, a + 3⟩ : Mv) :: markMvs (a + 4) r
theorem markBs_length (a : Int) (l : List Bool) : (markBs a l).length = l.length := by
  induction l generalizing a with
  | nil => rfl
  | cons x r ih => simp [markBs, ih]
theorem markMvs_length (a : Int) (l : List Mv) : (markMvs a l).length = l.length := by
  induction l generalizing a with
  | nil => rfl
  | cons x r ih => simp [markMvs, ih]
theorem laws_markBoolS_l0 : ∀ (rest done : List Bool) (k : Nat) (a : Int), done.length + rest.length ≤ 4611686018427387904 → 0 ≤ a → a + rest.length ≤ 4611686018427387903 → rest.length < k →
    laws_markBoolS.l0 k (done ++ rest) a (done.length : Int) = some (a + rest.length, done ++ markBs a rest) := by
  intro rest
  induction rest with
  | nil =>
    intro done k a hl h0 h1 hk
    obtain ⟨k, rfl⟩ := succ_of hk
    simp only [laws_markBoolS.l0, List.append_nil]; rw [if_neg (by omega)]; simp [markBs]
  | cons x r ih =>
    intro done k a hl h0 h1 hk
    obtain ⟨k, rfl⟩ := succ_of hk
    simp only [List.length_cons] at hl h1 hk ⊢
    simp only [laws_markBoolS.l0]
    rw [if_pos (by rw [len_at]; omega), if_pos (by omega), wrap_id (x := a + 1) (by omega) (by omega), toNat_cast, set_at, wrap_up (n := done.length + 1) (by omega) (by omega), ← len_snoc done (Int.tmod a 3 == 0), ih _ k _ (by rw [len_snoc]; omega) (by omega) (by omega) (by omega)]
    simp only [markBs, List.append_assoc, List.singleton_append]
    congr 2; omega
theorem laws_markMoveS_l0 : ∀ (rest done : List Mv) (k : Nat) (a : Int), done.length + rest.length ≤ 1048576 → 0 ≤ a → a + 4 * rest.length ≤ 4611686018427387903 → rest.length < k →
    laws_markMoveS.l0 k (done ++ rest) a (done.length : Int) = some (a + 4 * rest.length, done ++ markMvs a rest) := by
  intro rest
  induction rest with
  | nil =>
    intro done k a hl h0 h1 hk
    obtain ⟨k, rfl⟩ := succ_of hk
    simp only [laws_markMoveS.l0, List.append_nil]; rw [if_neg (by omega)]; simp [markMvs]
  | cons x r ih =>
    intro done k a hl h0 h1 hk
    obtain ⟨k, rfl⟩ := succ_of hk
    simp only [List.length_cons] at hl h1 hk ⊢
    simp only [laws_markMoveS.l0]
    rw [if_pos (by rw [len_at]; omega), if_pos (by omega)]
    simp only [Option.bind_some, toNat_cast, rd_Mv, nt_at, set_at, nt_mid zMv done r _ done.length rfl, set_mid done r _ _ done.length rfl]
    rw [wrap_id (x := a + 1) (by omega) (by omega), wrap_id (x := a + 1 + 1) (by omega) (by omega), wrap_id (x := a + 1 + 1 + 1) (by omega) (by omega), wrap_id (x := a + 1 + 1 + 1 + 1) (by omega) (by omega), wrap_up (n := done.length + 1) (by omega) (by omega)]
    have e1 : a + 1 + 1 = a + 2 := by omega
    have e2 : a + 2 + 1 = a + 3 := by omega
    have e3 : a + 3 + 1 = a + 4 := by omega
    rw [e1, e2, e3, ← len_snoc done (⟨a, (Int.tmod (a + 1) 3 == 0), a + 2, a + 3⟩ : Mv), ih _ k _ (by rw [len_snoc]; omega) (by omega) (by omega) (by omega)]
    simp only [markMvs, List.append_assoc, List.singleton_append]
    congr 2; omega
theorem laws_markMachine_eq {n : Int} {e : List Bool} {l : List Mv} {a : Int} {k : Nat} (he : e.length ≤ 1048576) (hl : l.length ≤ 1048576) (h0 : 0 ≤ a) (h1 : a ≤ 16777216) (hk : 1048577 < k) : laws_markMachine.f k n e l a = some (a + e.length + 4 * l.length, markBs a e, markMvs (a + e.length) l) := by
  unfold laws_markMachine.f laws_markBoolS.f laws_markMoveS.f
  have f1 := laws_markBoolS_l0 e [] k a (by simp; omega) h0 (by omega) (by omega)
  have f2 := laws_markMoveS_l0 l [] k (a + e.length) (by simp; omega) (by omega) (by omega) (by omega)
  simp only [List.nil_append, List.length_nil, Int.ofNat_zero, Int.natCast_zero] at f1 f2
  rw [show laws_markBoolS.l0 k e a 0 = _ from f1, Option.bind_some, show laws_markMoveS.l0 k l (a + e.length) 0 = _ from f2, Option.bind_some]

/-! ### T_MoveOf -/
def keyMv (a : Int) (s : Bool) (m : Int) (x : Mv) : Bool := (x.f0 == a) && ((x.f1 == s) && (x.f2 == m))
def moveOf (l : List Mv) (a : Int) (s : Bool) (m : Int) : Int := (l.findIdx? (keyMv a s m)).elim (-1) fun j => (j : Int)

/-! ### T_mf -/
def fromMv (a : Int) (s : Bool) (x : Mv) : Bool := (x.f0 == a) && (x.f1 == s)
def movesFrom (l : List Mv) (a : Int) (s : Bool) : List Int := l.foldl (fun acc x => if fromMv a s x = true then putI acc x.f2 else acc) []
theorem movesFrom_nonempty (a : Int) (s : Bool) : ∀ (l : List Mv) (acc : List Int), (0 < (l.foldl (fun acc x => if fromMv a s x = true then putI acc x.f2 else acc) acc).length) ↔ (0 < acc.length ∨ l.any (fromMv a s) = true)
  | [], acc => by simp
  | x :: r, acc => by
    rw [List.foldl_cons, movesFrom_nonempty a s r, List.any_cons]
    have := putI_length acc x.f2
    by_cases h : fromMv a s x = true
    · rw [if_pos h, h]; simp; omega
    · rw [if_neg h]; simp [h]

/-! ### impl_MovesFrom -/
theorem movesFrom_sort (l : List Mv) (a : Int) (s : Bool) : movesFrom l a s = sortUniq ((l.filter (fromMv a s)).map (·.f2)) := by
  rw [sortUniq_eq]
  unfold movesFrom
  have : ∀ (l : List Mv) (acc : List Int), l.foldl (fun acc x => if fromMv a s x = true then putI acc x.f2 else acc) acc = ((l.filter (fromMv a s)).map (·.f2)).foldl putI acc := by
    intro l
    induction l with
    | nil => intro acc; rfl
    | cons x r ih =>
      intro acc
      rw [List.foldl_cons, List.filter_cons, ih]
      by_cases h : fromMv a s x = true
      · rw [if_pos h, if_pos h]; rfl
      · rw [if_neg h, if_neg h]
  exact this l []
theorem impl_MovesFrom_eq {n : Int} {e : List Bool} {l : List Mv} {a : Int} {s : Bool} {k : Nat} (hl : l.length ≤ 1048576) (hk : l.length < k) : impl_MovesFrom.f k n e l a s = some (movesFrom l a s) := by
  unfold impl_MovesFrom.f
  have h := filter_loopC (g := fun k acc i => impl_MovesFrom.l0 k a s acc l (l.length : Int) (i : Int)) (l := l) (z := zMv) (B := 0) (p := fromMv a s) (f := fun x => x.f2) (fin := fun acc => some (sortUniq acc)) (fun k acc _ ha => by
      simp only [impl_MovesFrom.l0]
      rw [if_neg (by omega)]
      unfold slices_Sort_int_int.f slices_Compact_int_int.f
      rw [if_pos (by omega), Option.bind_some, Option.bind_some]; rfl)
    (fun k i acc hi _ hacc => by
      simp only [impl_MovesFrom.l0]
      rw [if_pos (by omega), if_pos (by omega), if_pos (by omega), rd_Mv, wrap_up (n := l.length) hi (by omega)]
      by_cases h1 : (nt zMv l i).f0 = a
      · rw [if_pos h1]
        cases h2 : ((nt zMv l i).f1 == s) with
        | true => rw [if_pos rfl, if_pos (show acc.length < 17592186044416 by omega), if_pos (by simp [fromMv, h1, h2])]
        | false => rw [if_neg (by simp), if_neg (by simp [fromMv, h2])]
      · rw [if_neg h1, if_neg (by simp [fromMv, h1])]) l.length k 0 [] (by omega) (by omega) (by simp)
  rw [movesFrom_sort]
  simpa using h
theorem movesFrom_len (l : List Mv) (a : Int) (s : Bool) : (movesFrom l a s).length ≤ l.length := by
  rw [movesFrom_sort]; unfold sortUniq
  refine Nat.le_trans (compact_len _) ?_
  rw [List.length_mergeSort, List.length_map]
  exact List.length_filter_le _ _
theorem movesFrom_strict (l : List Mv) (a : Int) (s : Bool) : (movesFrom l a s).Pairwise (· < ·) := by rw [movesFrom_sort]; exact (sortUniq_spec _).1
theorem mem_movesFrom {l : List Mv} {a : Int} {s : Bool} {v : Int} : v ∈ movesFrom l a s ↔ ∃ x ∈ l, fromMv a s x = true ∧ x.f2 = v := by
  rw [movesFrom_sort, (sortUniq_spec _).2, List.mem_map]
  constructor
  · rintro ⟨x, hx, rfl⟩; rw [List.mem_filter] at hx; exact ⟨x, hx.1, hx.2, rfl⟩
  · rintro ⟨x, hx, h, rfl⟩; exact ⟨x, List.mem_filter.2 ⟨hx, h⟩, rfl⟩

/-! ### T_moves -/
theorem moveOf_any (l : List Mv) (a : Int) (s : Bool) (v : Int) : 0 ≤ moveOf l a s v ↔ v ∈ movesFrom l a s := by
  rw [mem_movesFrom]
  have h := idx_any (keyMv a s v) l
  have e : decide (moveOf l a s v ≥ 0) = l.any (keyMv a s v) := h
  constructor
  · intro q
    rw [decide_eq_true (show moveOf l a s v ≥ 0 from q)] at e
    obtain ⟨x, hx, hk⟩ := List.any_eq_true.1 e.symm
    simp only [keyMv, Bool.and_eq_true, beq_iff_eq] at hk
    exact ⟨x, hx, by simp [fromMv, hk.1, hk.2.1], hk.2.2⟩
  · rintro ⟨x, hx, hf, rfl⟩
    have : l.any (keyMv a s x.f2) = true := List.any_eq_true.2 ⟨x, hx, by simp only [fromMv, Bool.and_eq_true, beq_iff_eq] at hf; simp [keyMv, hf.1, hf.2]⟩
    rw [this] at e
    exact of_decide_eq_true e

/-! ### T_next -/
theorem moveOf_bnd (l : List Mv) (a : Int) (s : Bool) (m : Int) : moveOf l a s m < 0 ∨ ∃ j : Nat, moveOf l a s m = j ∧ j < l.length ∧ keyMv a s m (nt zMv l j) = true := by
  rcases idx_elim_nonneg (keyMv a s m) l zMv with ⟨h, _⟩ | ⟨j, h1, h2, h3, _⟩
  · exact .inl h
  · exact .inr ⟨j, h1, h2, h3⟩
/-- Both machines make the move of message v: the first as s tells, the second the other way round. -/
def pairOk (l m : List Mv) (x y : Int) (s : Bool) (v : Int) : Bool := decide (0 ≤ moveOf l x s v) && decide (0 ≤ moveOf m y (!s) v)
def pairTo (l m : List Mv) (x y : Int) (s : Bool) (v : Int) : List Int := [(nt zMv l (moveOf l x s v).toNat).f3, (nt zMv m (moveOf m y (!s) v).toNat).f3]
def nextPairs (l m : List Mv) (x y : Int) : List (List Int) :=
  ((movesFrom l x true).filter (pairOk l m x y true)).map (pairTo l m x y true) ++ ((movesFrom m y true).filter (pairOk l m x y false)).map (pairTo l m x y false)
theorem nextPairs_len (l m : List Mv) (x y : Int) : (nextPairs l m x y).length ≤ l.length + m.length := by
  unfold nextPairs
  rw [List.length_append, List.length_map, List.length_map]
  have h1 := List.length_filter_le (pairOk l m x y true) (movesFrom l x true)
  have h2 := List.length_filter_le (pairOk l m x y false) (movesFrom m y true)
  have h3 := movesFrom_len l x true
  have h4 := movesFrom_len m y true
  omega

/-! ### T_inB -/
def inB (x a b : Int) : Bool := decide (a ≤ x) && decide (x ≤ b)
theorem inB_dec (x a b : Int) : decide (a ≤ x ∧ x ≤ b) = inB x a b := by simp [inB]

/-! ### T_IsMachine -/
def okMv (n : Int) (x : Mv) : Bool := inB x.f0 0 (n - 1) && (inB x.f3 0 (n - 1) && inB x.f2 0 5)
/-- Two moves that may not stand together. -/
def clashMv (x y : Mv) : Bool := (x.f0 == y.f0) && (!(x.f1 == y.f1) || (x.f2 == y.f2))
def isMachine (n : Int) (e : List Bool) (l : List Mv) : Bool := inB n 1 6 && (decide ((e.length : Int) = n) && (decide (l.length ≤ 12) &&
  allFrom (fun i => okMv n (nt zMv l i) && allFrom (fun j => !clashMv (nt zMv l j) (nt zMv l i)) 0 i) 0 l.length))
theorem moveOf_lt {l : List Mv} {i : Nat} (hi : i < l.length) : moveOf l (nt zMv l i).f0 (nt zMv l i).f1 (nt zMv l i).f2 < (i : Int) ↔ ∃ j, j < i ∧ keyMv (nt zMv l i).f0 (nt zMv l i).f1 (nt zMv l i).f2 (nt zMv l j) = true := by
  unfold moveOf
  have hs : keyMv (nt zMv l i).f0 (nt zMv l i).f1 (nt zMv l i).f2 (nt zMv l i) = true := by simp [keyMv]
  cases e : l.findIdx? (keyMv (nt zMv l i).f0 (nt zMv l i).f1 (nt zMv l i).f2) with
  | none =>
    rw [List.findIdx?_eq_none_iff] at e
    have := e _ (nt_mem zMv l i hi)
    rw [hs] at this; cases this
  | some j =>
    obtain ⟨h1, h2, h3⟩ := List.findIdx?_eq_some_iff_getElem.1 e
    simp only [Option.elim]
    constructor
    · intro h; exact ⟨j, by omega, by rw [nt_lt _ _ _ h1]; exact h2⟩
    · rintro ⟨j', hj, hq⟩
      by_cases h : j < i
      · omega
      · have h4 := h3 j' (by omega)
        rw [nt_lt l zMv j' (by omega)] at hq
        rw [hq] at h4; exact absurd rfl h4
theorem good_iff (n : Int) (l : List Mv) :
    allFrom (fun i => okMv n (nt zMv l i) && (!decide (moveOf l (nt zMv l i).f0 (nt zMv l i).f1 (nt zMv l i).f2 < (i : Int)) && !decide (((movesFrom l (nt zMv l i).f0 (!(nt zMv l i).f1)).length : Int) > 0))) 0 l.length
    = allFrom (fun i => okMv n (nt zMv l i) && allFrom (fun j => !clashMv (nt zMv l j) (nt zMv l i)) 0 i) 0 l.length := by
  rw [Bool.eq_iff_iff, allFrom_iff, allFrom_iff]
  have hm : ∀ i, ((movesFrom l (nt zMv l i).f0 (!(nt zMv l i).f1)).length : Int) > 0 ↔ ∃ j, j < l.length ∧ fromMv (nt zMv l i).f0 (!(nt zMv l i).f1) (nt zMv l j) = true := by
    intro i
    have h := movesFrom_nonempty (nt zMv l i).f0 (!(nt zMv l i).f1) l []
    simp only [List.length_nil, Nat.lt_irrefl, false_or, List.any_eq_true] at h
    constructor
    · intro hp
      obtain ⟨x, hx, hq⟩ := h.1 (by unfold movesFrom at hp; omega)
      obtain ⟨j, hj, rfl⟩ := List.mem_iff_getElem.1 hx
      exact ⟨j, hj, by rw [nt_lt _ _ _ hj]; exact hq⟩
    · rintro ⟨j, hj, hq⟩
      have := h.2 ⟨_, nt_mem zMv l j hj, hq⟩
      unfold movesFrom; omega
  constructor
  · intro h i h0 hi
    have q := h i h0 hi
    simp only [Bool.and_eq_true, Bool.not_eq_true', decide_eq_false_iff_not] at q ⊢
    refine ⟨q.1, (allFrom_iff _ _ _).2 fun j _ hj => ?_⟩
    simp only [Bool.not_eq_true']
    cases hc : clashMv (nt zMv l j) (nt zMv l i) with
    | false => rfl
    | true =>
      exfalso
      simp only [clashMv, Bool.and_eq_true, Bool.or_eq_true, beq_iff_eq, Bool.not_eq_true', beq_eq_false_iff_ne] at hc
      by_cases hs : (nt zMv l j).f1 = (nt zMv l i).f1
      · rcases hc.2 with h2 | h2
        · exact h2 hs
        · exact q.2.1 ((moveOf_lt (by omega)).2 ⟨j, by omega, by rw [keyMv, hc.1, hs, h2]; simp⟩)
      · exact q.2.2 ((hm i).2 ⟨j, by omega, by
          simp only [fromMv, hc.1, beq_self_eq_true, Bool.true_and]
          cases hA : (nt zMv l j).f1 <;> cases hB : (nt zMv l i).f1 <;> simp_all⟩)
  · intro h i h0 hi
    have q := h i h0 hi
    simp only [Bool.and_eq_true, Bool.not_eq_true', decide_eq_false_iff_not] at q ⊢
    have q2 := (allFrom_iff _ _ _).1 q.2
    refine ⟨q.1, fun hlt => ?_, fun hp => ?_⟩
    · obtain ⟨j, hj, hk⟩ := (moveOf_lt (by omega)).1 hlt
      have := q2 j (by omega) (by omega)
      simp only [keyMv, Bool.and_eq_true, beq_iff_eq] at hk
      simp [clashMv, hk.1, hk.2.2] at this
    · obtain ⟨j, hj, hf⟩ := (hm i).1 hp
      simp only [fromMv, Bool.and_eq_true, beq_iff_eq] at hf
      rcases Nat.lt_trichotomy j i with hji | hji | hji
      · have := q2 j (by omega) (by omega)
        simp [clashMv, hf.1, hf.2] at this
      · subst hji; exact absurd hf.2 (by cases (nt zMv l j).f1 <;> simp)
      · have r := h j (by omega) (by omega)
        simp only [Bool.and_eq_true] at r
        have := (allFrom_iff _ _ _).1 r.2 i (by omega) (by omega)
        simp [clashMv, hf.1, hf.2] at this

/-! ### T_reach -/
/-- A pair is put behind the others if it isn't there. -/
def addPair (out : List (List Int)) (p : List Int) : List (List Int) := if p ∈ out then out else out ++ [p]
def addAll (out ps : List (List Int)) : List (List Int) := ps.foldl addPair out
def reachFrom (nx : Int → Int → List (List Int)) : Nat → Nat → List (List Int) → List (List Int)
  | 0, _, out => out
  | n + 1, i, out => if i < out.length then reachFrom nx n (i + 1) (addAll out (nx (nt 0 (nt [] out i) 0) (nt 0 (nt [] out i) 1))) else out
def reach (nx : Int → Int → List (List Int)) : List (List Int) := reachFrom nx 37 0 [[0, 0]]
/-- Two states of machines with n and m states. -/
def okPair (n m : Int) (p : List Int) : Prop := ∃ x y : Int, p = [x, y] ∧ 0 ≤ x ∧ x < n ∧ 0 ≤ y ∧ y < m
def goodPairs (n m : Int) (out : List (List Int)) : Prop := out.Nodup ∧ ∀ p ∈ out, okPair n m p
/-- The step leads from pairs of states to pairs of states. -/
def okNext (n m : Int) (nx : Int → Int → List (List Int)) : Prop := ∀ x y, 0 ≤ x → x < n → 0 ≤ y → y < m → ∀ p ∈ nx x y, okPair n m p
theorem nodup_len : ∀ {l m : List (List Int)}, l.Nodup → (∀ x ∈ l, x ∈ m) → l.length ≤ m.length
  | [], _, _, _ => Nat.zero_le _
  | a :: l, m, hn, hs => by
    obtain ⟨h1, h2⟩ := List.nodup_cons.1 hn
    have ha := hs a List.mem_cons_self
    have := nodup_len (l := l) (m := m.erase a) h2 (fun x hx => (List.mem_erase_of_ne (fun e : x = a => h1 (e ▸ hx))).2 (hs x (List.mem_cons_of_mem _ hx)))
    have h3 := List.length_erase_of_mem ha
    have h4 := List.length_pos_of_mem ha
    rw [List.length_cons]; omega
def sixes : List (List Int) := (List.range 6).flatMap fun x : Nat => (List.range 6).map fun y : Nat => [(x : Int), (y : Int)]
theorem good_len {n m : Int} {out : List (List Int)} (hn : n ≤ 6) (hm : m ≤ 6) (h : goodPairs n m out) : out.length ≤ 36 := by
  refine Nat.le_trans (nodup_len (m := sixes) h.1 fun p hp => ?_) (by decide)
  obtain ⟨x, y, rfl, h1, h2, h3, h4⟩ := h.2 p hp
  unfold sixes
  refine List.mem_flatMap.2 ⟨x.toNat, List.mem_range.2 (by omega), List.mem_map.2 ⟨y.toNat, List.mem_range.2 (by omega), ?_⟩⟩
  rw [Int.toNat_of_nonneg h1, Int.toNat_of_nonneg h3]
theorem addPair_good {n m : Int} {out : List (List Int)} {p : List Int} (h : goodPairs n m out) (hp : okPair n m p) : goodPairs n m (addPair out p) := by
  unfold addPair
  split
  · exact h
  · rename_i q
    refine ⟨List.nodup_append.2 ⟨h.1, by simp, fun a ha b hb => ?_⟩, fun x hx => ?_⟩
    · rw [List.mem_singleton] at hb; subst hb; exact fun e => q (e ▸ ha)
    · rcases List.mem_append.1 hx with hx | hx
      · exact h.2 x hx
      · rw [List.mem_singleton] at hx; subst hx; exact hp
theorem addAll_good {n m : Int} : ∀ {ps out : List (List Int)}, goodPairs n m out → (∀ p ∈ ps, okPair n m p) → goodPairs n m (addAll out ps)
  | [], _, h, _ => h
  | p :: ps, out, h, hp => addAll_good (ps := ps) (out := addPair out p) (addPair_good h (hp p List.mem_cons_self)) (fun x hx => hp x (List.mem_cons_of_mem _ hx))
theorem good_at {n m : Int} {out : List (List Int)} {i : Nat} (h : goodPairs n m out) (hi : i < out.length) : nt [] out i = [nt 0 (nt [] out i) 0, nt 0 (nt [] out i) 1] ∧ 0 ≤ nt 0 (nt [] out i) 0 ∧ nt 0 (nt [] out i) 0 < n ∧ 0 ≤ nt 0 (nt [] out i) 1 ∧ nt 0 (nt [] out i) 1 < m := by
  obtain ⟨x, y, e, h1, h2, h3, h4⟩ := h.2 _ (nt_mem [] out i hi)
  rw [e]
  exact ⟨rfl, h1, h2, h3, h4⟩
theorem good_next {n m : Int} {nx : Int → Int → List (List Int)} (hx : okNext n m nx) {out : List (List Int)} {i : Nat} (h : goodPairs n m out) (hi : i < out.length) :
    goodPairs n m (addAll out (nx (nt 0 (nt [] out i) 0) (nt 0 (nt [] out i) 1))) := by
  obtain ⟨_, h1, h2, h3, h4⟩ := good_at h hi
  exact addAll_good h (hx _ _ h1 h2 h3 h4)
theorem good_start {n m : Int} (hn : 1 ≤ n) (hm : 1 ≤ m) : goodPairs n m [[0, 0]] := by
  refine ⟨by simp, fun p hp => ?_⟩
  rw [List.mem_singleton] at hp
  exact ⟨0, 0, hp, by omega, by omega, by omega, by omega⟩
theorem reachFrom_good {n m : Int} {nx : Int → Int → List (List Int)} (hx : okNext n m nx) : ∀ (d i : Nat) {out : List (List Int)}, goodPairs n m out → goodPairs n m (reachFrom nx d i out)
  | 0, _, _, h => h
  | d + 1, i, out, h => by
    simp only [reachFrom]
    split
    · rename_i hi; exact reachFrom_good hx d (i + 1) (good_next hx h hi)
    · exact h
theorem reach_good {n m : Int} {nx : Int → Int → List (List Int)} (hx : okNext n m nx) (hn : 1 ≤ n) (hm : 1 ≤ m) : goodPairs n m (reach nx) := reachFrom_good hx _ _ (good_start hn hm)
/-- A machine's moves lead to its states. -/
theorem machine_to {n : Int} {e : List Bool} {l : List Mv} (h : isMachine n e l = true) {j : Nat} (hj : j < l.length) : 0 ≤ (nt zMv l j).f3 ∧ (nt zMv l j).f3 < n := by
  unfold isMachine inB at h
  simp only [Bool.and_eq_true, decide_eq_true_eq] at h
  obtain ⟨_, _, _, hA⟩ := h
  have := (allFrom_iff _ _ _).1 hA j (by omega) (by omega)
  simp only [okMv, inB, Bool.and_eq_true, decide_eq_true_eq] at this
  omega
theorem machine_len {n : Int} {e : List Bool} {l : List Mv} (h : isMachine n e l = true) : 1 ≤ n ∧ n ≤ 6 ∧ (e.length : Int) = n ∧ l.length ≤ 12 := by
  unfold isMachine inB at h
  simp only [Bool.and_eq_true, decide_eq_true_eq] at h
  exact ⟨h.1.1, h.1.2, h.2.1, h.2.2.1⟩
theorem okNext_pairs {n m : Int} {e f : List Bool} {l k : List Mv} (h1 : isMachine n e l = true) (h2 : isMachine m f k = true) : okNext n m (nextPairs l k) := by
  intro x y _ _ _ _ p hp
  have one : ∀ s v, pairOk l k x y s v = true → okPair n m (pairTo l k x y s v) := by
    intro s v q
    simp only [pairOk, Bool.and_eq_true, decide_eq_true_eq] at q
    rcases moveOf_bnd l x s v with a | ⟨i, e1, b1, _⟩
    · omega
    · rcases moveOf_bnd k y (!s) v with a | ⟨j, e2, b2, _⟩
      · omega
      · have c1 := machine_to h1 b1
        have c2 := machine_to h2 b2
        exact ⟨_, _, by rw [pairTo, e1, e2, toNat_cast, toNat_cast], c1.1, c1.2, c2.1, c2.2⟩
  unfold nextPairs at hp
  rcases List.mem_append.1 hp with hp | hp
  · obtain ⟨v, hv, rfl⟩ := List.mem_map.1 hp
    exact one _ _ (List.mem_filter.1 hv).2
  · obtain ⟨v, hv, rfl⟩ := List.mem_map.1 hp
    exact one _ _ (List.mem_filter.1 hv).2

/-! ### T_ll -/
theorem rdLL (l : List (List Int)) (i : Nat) : rd_L4 l (i : Int) = nt [] l i := by simp [rd_L4, nt]
theorem rd_nt0 (l : List Int) : rd l 0 = nt 0 l 0 := by simp [rd, nt]
theorem rd_nt1 (l : List Int) : rd l 1 = nt 0 l 1 := by simp [rd, nt]
theorem okPair_len {n m : Int} {p : List Int} (h : okPair n m p) : p.length = 2 := by
  obtain ⟨x, y, rfl, _⟩ := h
  rfl
theorem addAll_cons (out : List (List Int)) (p : List Int) (ps : List (List Int)) : addAll out (p :: ps) = addAll (addPair out p) ps := rfl
theorem addPair_len (out : List (List Int)) (p : List Int) : (addPair out p).length ≤ out.length + 1 := by
  unfold addPair; split
  · omega
  · rw [len_snoc]; omega

/-! ### T_IntSS -/
/-- The numbers in a list of lists. -/
def inLL : List (List Int) → Nat
  | [] => 0
  | x :: r => x.length + inLL r
theorem inLL_two : ∀ {l : List (List Int)}, (∀ p ∈ l, p.length = 2) → inLL l = 2 * l.length
  | [], _ => rfl
  | x :: r, h => by
    have h1 := h x List.mem_cons_self
    have h2 := inLL_two (l := r) (fun p hp => h p (List.mem_cons_of_mem _ hp))
    simp only [inLL, List.length_cons]; omega
theorem inLL_mem : ∀ {l : List (List Int)} {x : List Int}, x ∈ l → x.length ≤ inLL l
  | y :: r, x, h => by
    simp only [inLL]
    rcases List.mem_cons.1 h with h | h
    · subst h; omega
    · have := inLL_mem h; omega
/-- Marks, one number after the other from a on. -/
def markLL : Int → List (List Int) → List (List Int)
  | _, [] => []
  | a, x :: r => seqFrom a x.length :: markLL (a + x.length) r
theorem mLL (l : List (List Int)) (i : Nat) : laws_markIntSS.rd l (i : Int) = nt [] l i := by simp [laws_markIntSS.rd, nt]

/-! ### laws_eqIntS -/
theorem laws_eqIntS_l0 (a b : List Int) (hl : a.length ≤ 9223372036854775807) (he : b.length = a.length) : ∀ (d k i : Nat), i + d = a.length → d < k → laws_eqIntS.l0 k a b (i : Int) = some (decide (a.drop i = b.drop i)) := by
  intro d
  induction d with
  | zero =>
    intro k i h hk
    obtain ⟨k, rfl⟩ := succ_of hk
    obtain rfl : i = a.length := by omega
    simp only [laws_eqIntS.l0]; rw [if_neg (by omega), drop_end, ← he, drop_end, decide_eq_true rfl]
  | succ d ih =>
    intro k i h hk
    obtain ⟨k, rfl⟩ := succ_of hk
    simp only [laws_eqIntS.l0]
    rw [if_pos (by omega), if_pos (by omega), if_pos (by omega), wrap_up (n := a.length) (by omega) hl, rd_cast, rd_cast, drop_step a 0 i (by omega), drop_step b 0 i (by omega), ih k (i + 1) (by omega) (by omega)]
    by_cases e : nt 0 a i = nt 0 b i
    · rw [if_pos e, e]; simp
    · rw [if_neg e]; simp [e]
theorem laws_eqIntS_eq {a b : List Int} {k : Nat} (hl : a.length ≤ 9223372036854775807) (hk : a.length < k) : laws_eqIntS.f k a b = some (decide (a = b)) := by
  unfold laws_eqIntS.f
  by_cases e : a.length = b.length
  · rw [if_pos (by omega)]
    exact laws_eqIntS_l0 a b hl e.symm a.length k 0 (by omega) hk
  · rw [if_neg (by omega), decide_eq_false (fun h => e (by rw [h]))]
theorem laws_eqIntS_self {a : List Int} {k : Nat} (hl : a.length ≤ 9223372036854775807) (hk : a.length < k) : laws_eqIntS.f k a a = some true := by
  rw [laws_eqIntS_eq hl hk, decide_eq_true rfl]

/-! ### laws_eqIntSS -/
theorem laws_eqIntSS_self {l : List (List Int)} {k : Nat} (hl : l.length ≤ 1048576) (hm : inLL l ≤ 4194304) (hk : l.length + inLL l + 1 < k) : laws_eqIntSS.f k l l = some true := by
  unfold laws_eqIntSS.f
  rw [if_pos rfl]
  exact pass_loop (g := fun k i => laws_eqIntSS.l0 k l l (i : Int)) (n := l.length) (B := inLL l + 1) (fun k => by
      simp only [laws_eqIntSS.l0]; rw [if_neg (by omega)])
    (fun k i hi hk => by
      have hx := inLL_mem (nt_mem [] l i hi)
      simp only [laws_eqIntSS.l0]
      rw [if_pos (by omega), if_pos (by omega), if_pos (by omega), wrap_up (n := l.length) hi (by omega), rdLL, laws_eqIntS_self (by omega) (by omega)]
      simp only [if_true, Option.bind_some]) l.length k 0 (by omega) (by omega)

/-! ### laws_markIntS -/
theorem laws_markIntS_l0 (l : List Int) (hl : l.length ≤ 4611686018427387904) (a : Int) (h0 : 0 ≤ a) (h1 : a ≤ 4611686018427387903) : ∀ (d k i : Nat), i + d = l.length → d < k → laws_markIntS.l0 k (seqFrom a i ++ l.drop i) (a + i) (i : Int) = some (a + l.length, seqFrom a l.length) := by
  intro d
  induction d with
  | zero =>
    intro k i h hk
    obtain ⟨k, rfl⟩ := succ_of hk
    obtain rfl : i = l.length := by omega
    simp only [laws_markIntS.l0]; rw [drop_end, List.append_nil, seqFrom_length, if_neg (by omega)]
  | succ d ih =>
    intro k i h hk
    obtain ⟨k, rfl⟩ := succ_of hk
    simp only [laws_markIntS.l0]
    rw [if_pos (by rw [List.length_append, List.length_drop, seqFrom_length]; omega), if_pos (by omega), wrap_up (n := l.length) (by omega) (by omega), toNat_cast, set_mark _ _ _ _ (seqFrom_length a i) (by omega), ← seqFrom_snoc, wrap_id (by omega) (by omega), Int.add_assoc]
    exact ih k (i + 1) (by omega) (by omega)
theorem laws_markIntS_eq {l : List Int} {a : Int} {k : Nat} (hl : l.length ≤ 4611686018427387904) (h0 : 0 ≤ a) (h1 : a ≤ 4611686018427387903) (hk : l.length < k) : laws_markIntS.f k l a = some (a + l.length, seqFrom a l.length) := by
  unfold laws_markIntS.f
  have h := laws_markIntS_l0 l hl a h0 h1 l.length k 0 (by omega) hk
  simp only [seqFrom, List.drop_zero, List.nil_append, Int.natCast_zero, Int.add_zero] at h
  exact h

/-! ### laws_markIntSS -/
theorem laws_markIntSS_l0 : ∀ (rest done : List (List Int)) (k : Nat) (a : Int), done.length + rest.length ≤ 4611686018427387904 → 0 ≤ a → a + inLL rest ≤ 4611686018427387903 → rest.length + inLL rest + 1 < k →
    laws_markIntSS.l0 k (done ++ rest) a (done.length : Int) = some (a + inLL rest, done ++ markLL a rest) := by
  intro rest
  induction rest with
  | nil =>
    intro done k a hl h0 h1 hk
    obtain ⟨k, rfl⟩ := succ_of hk
    simp only [laws_markIntSS.l0, List.append_nil]; rw [if_neg (by omega)]; simp [markLL, inLL]
  | cons x r ih =>
    intro done k a hl h0 h1 hk
    obtain ⟨k, rfl⟩ := succ_of hk
    simp only [inLL, List.length_cons] at hl h1 hk ⊢
    simp only [laws_markIntSS.l0]
    rw [if_pos (by rw [len_at]; omega), if_pos (by omega), mLL, nt_at, laws_markIntS_eq (by omega) (by omega) (by omega) (by omega)]
    simp only [Option.bind_some, toNat_cast]
    rw [set_at, wrap_up (n := done.length + 1) (by omega) (by omega), ← len_snoc done (seqFrom a x.length), ih _ k _ (by rw [len_snoc]; omega) (by omega) (by omega) (by omega)]
    simp only [markLL, List.append_assoc, List.singleton_append]
    congr 2; omega
theorem laws_markIntSS_eq {l : List (List Int)} {a : Int} {k : Nat} (hl : l.length ≤ 1048576) (hm : inLL l ≤ 4194304) (h0 : 0 ≤ a) (h1 : a ≤ 1048576) (hk : l.length + inLL l + 1 < k) : laws_markIntSS.f k l a = some (a + inLL l, markLL a l) := by
  unfold laws_markIntSS.f
  exact laws_markIntSS_l0 l [] k a (by simp; omega) (by omega) (by omega) (by omega)

/-! ### laws_heldIntS -/
theorem laws_heldIntS_l0 (n : Nat) (hn : n ≤ 4611686018427387904) (a : Int) (h0 : 0 ≤ a) (h1 : a ≤ 4611686018427387903) : ∀ (d k i : Nat), i + d = n → d < k → laws_heldIntS.l0 k (seqFrom a n) (a + i) (i : Int) = some (a + n) := by
  intro d
  induction d with
  | zero =>
    intro k i h hk
    obtain ⟨k, rfl⟩ := succ_of hk
    obtain rfl : i = n := by omega
    simp only [laws_heldIntS.l0]; rw [seqFrom_length, if_neg (by omega)]
  | succ d ih =>
    intro k i h hk
    obtain ⟨k, rfl⟩ := succ_of hk
    simp only [laws_heldIntS.l0]
    rw [seqFrom_length, if_pos (by omega), if_pos (by omega), rd_cast, nt_seq a n i (by omega), if_pos rfl, wrap_up (n := n) (by omega) (by omega), wrap_id (by omega) (by omega), Int.add_assoc]
    exact ih k (i + 1) (by omega) (by omega)
theorem laws_heldIntS_eq {n : Nat} {a : Int} {k : Nat} (hn : n ≤ 4611686018427387904) (h0 : 0 ≤ a) (h1 : a ≤ 4611686018427387903) (hk : n < k) : laws_heldIntS.f k (seqFrom a n) a = some (a + n) := by
  unfold laws_heldIntS.f
  have h := laws_heldIntS_l0 n hn a h0 h1 n k 0 (by omega) hk
  simp only [Int.natCast_zero, Int.add_zero] at h
  exact h

/-! ### laws_heldIntSS -/
theorem laws_heldIntSS_l0 : ∀ (rest done : List (List Int)) (k : Nat) (a : Int), done.length + rest.length ≤ 4611686018427387904 → 0 ≤ a → a + inLL rest ≤ 4611686018427387903 → rest.length + inLL rest + 1 < k →
    laws_heldIntSS.l0 k (done ++ markLL a rest) a (done.length : Int) = some (a + inLL rest) := by
  intro rest
  induction rest with
  | nil =>
    intro done k a hl h0 h1 hk
    obtain ⟨k, rfl⟩ := succ_of hk
    simp only [laws_heldIntSS.l0, markLL, List.append_nil]; rw [if_neg (by omega)]; simp [inLL]
  | cons x r ih =>
    intro done k a hl h0 h1 hk
    obtain ⟨k, rfl⟩ := succ_of hk
    simp only [inLL, List.length_cons] at hl h1 hk ⊢
    rw [show markLL a (x :: r) = seqFrom a x.length :: markLL (a + x.length) r from rfl]
    simp only [laws_heldIntSS.l0]
    rw [if_pos (by rw [len_at]; omega), if_pos (by omega), rdLL, nt_at, laws_heldIntS_eq (by omega) (by omega) (by omega) (by omega)]
    simp only [Option.bind_some]
    rw [if_neg (by omega), wrap_up (n := done.length + 1) (by omega) (by omega)]
    have e := ih (done ++ [seqFrom a x.length]) k (a + x.length) (by rw [len_snoc]; omega) (by omega) (by omega) (by omega)
    rw [List.append_assoc, List.singleton_append, len_snoc] at e
    rw [e]; congr 1; omega
theorem laws_heldIntSS_eq {l : List (List Int)} {a : Int} {k : Nat} (hl : l.length ≤ 1048576) (hm : inLL l ≤ 4194304) (h0 : 0 ≤ a) (h1 : a ≤ 1048576) (hk : l.length + inLL l + 1 < k) : laws_heldIntSS.f k (markLL a l) a = some (a + inLL l) := by
  unfold laws_heldIntSS.f
  exact laws_heldIntSS_l0 l [] k a (by simp; omega) (by omega) (by omega) (by omega)

/-! ### T_pairsOf -/
def pairsOf (n : Int) (e : List Bool) (l : List Mv) (n2 : Int) (f : List Bool) (m : List Mv) : List (List Int) := if (isMachine n e l && isMachine n2 f m) = true then reach (nextPairs l m) else []
theorem pairsOf_good {n n2 : Int} {e f : List Bool} {l m : List Mv} (h : (isMachine n e l && isMachine n2 f m) = true) : goodPairs n n2 (pairsOf n e l n2 f m) := by
  unfold pairsOf
  rw [if_pos h]
  rw [Bool.and_eq_true] at h
  have h1 := machine_len h.1
  have h2 := machine_len h.2
  exact reach_good (okNext_pairs h.1 h.2) h1.1 h2.1
theorem pairsOf_len2 (n : Int) (e : List Bool) (l : List Mv) (n2 : Int) (f : List Bool) (m : List Mv) : (pairsOf n e l n2 f m).length ≤ 36 ∧ ∀ p ∈ pairsOf n e l n2 f m, p.length = 2 := by
  by_cases h : (isMachine n e l && isMachine n2 f m) = true
  · have hg := pairsOf_good h
    rw [Bool.and_eq_true] at h
    have h1 := machine_len h.1
    have h2 := machine_len h.2
    exact ⟨good_len (by omega) (by omega) hg, fun p hp => okPair_len (hg.2 p hp)⟩
  · unfold pairsOf
    rw [if_neg h]
    exact ⟨by simp, fun p hp => by cases hp⟩

/-! ### spec_EqualInts -/
theorem spec_EqualInts_l0 (a b : List Int) (hl : a.length ≤ 9223372036854775807) (he : b.length = a.length) : ∀ (d k i : Nat), i + d = a.length → d < k → spec_EqualInts.l0 k a b (i : Int) = some (decide (a.drop i = b.drop i)) := by
  intro d
  induction d with
  | zero =>
    intro k i h hk
    obtain ⟨k, rfl⟩ := succ_of hk
    obtain rfl : i = a.length := by omega
    simp only [spec_EqualInts.l0]; rw [if_neg (by omega), drop_end, ← he, drop_end, decide_eq_true rfl]
  | succ d ih =>
    intro k i h hk
    obtain ⟨k, rfl⟩ := succ_of hk
    simp only [spec_EqualInts.l0]
    rw [if_pos (by omega), if_pos (by omega), if_pos (by omega), wrap_up (n := a.length) (by omega) hl, rd_cast, rd_cast, drop_step a 0 i (by omega), drop_step b 0 i (by omega), ih k (i + 1) (by omega) (by omega)]
    by_cases e : nt 0 a i = nt 0 b i
    · rw [if_pos e, e]; simp
    · rw [if_neg e]; simp [e]
theorem spec_EqualInts_eq {a b : List Int} {k : Nat} (hl : a.length ≤ 9223372036854775807) (hk : a.length < k) : spec_EqualInts.f k a b = some (decide (a = b)) := by
  unfold spec_EqualInts.f
  by_cases e : a.length = b.length
  · rw [if_pos (by omega)]
    exact spec_EqualInts_l0 a b hl e.symm a.length k 0 (by omega) hk
  · rw [if_neg (by omega), decide_eq_false (fun h => e (by rw [h]))]
theorem spec_EqualInts_self {a : List Int} {k : Nat} (hl : a.length ≤ 9223372036854775807) (hk : a.length < k) : spec_EqualInts.f k a a = some true := by
  rw [spec_EqualInts_eq hl hk, decide_eq_true rfl]

/-! ### spec_l14Has -/
theorem spec_l14Has_eq {out : List (List Int)} {p : List Int} {k : Nat} (ho : out.length ≤ 1048576) (hq : ∀ q ∈ out, q.length ≤ 8) (hk : out.length + 10 < k) : spec_l14Has.f k out p = some (decide (p ∈ out)) := by
  have h := any_loop (g := fun k i => spec_l14Has.l0 k out p (i : Int)) (l := out) (z := []) (B := 9) (p := fun q => decide (q = p)) (fun k => by
      simp only [spec_l14Has.l0]; rw [if_neg (by omega)])
    (fun k i hi hk => by
      have hL := hq _ (nt_mem [] out i hi)
      simp only [spec_l14Has.l0]
      rw [if_pos (by omega), if_pos (by omega), rdLL, spec_EqualInts_eq (by omega) (by omega), Option.bind_some, wrap_up (n := out.length) hi (by omega)]) out.length k 0 (by omega) (by omega)
  unfold spec_l14Has.f
  refine h.trans (congrArg some ?_)
  rw [List.drop_zero, Bool.eq_iff_iff, List.any_eq_true, decide_eq_true_eq]
  constructor
  · rintro ⟨x, hx, h⟩
    rw [decide_eq_true_eq] at h
    exact h ▸ hx
  · exact fun h => ⟨p, h, decide_eq_true rfl⟩

/-! ### T_put -/
/-- (putI: a number put into an ascending list: the library text Gm.) -/
theorem putI_nil (x : Int) : putI [] x = [x] := rfl

/-! ### spec_l4Put -/
theorem spec_l4Put_l0 (x : Int) : ∀ (rest done : List Int) (k : Nat), done.length + rest.length ≤ 2097152 → rest.length < k → spec_l4Put.l0 k (done ++ rest) x (done.length : Int) = some (done ++ putI rest x) := by
  intro rest
  induction rest with
  | nil =>
    intro done k hl hk
    obtain ⟨k, rfl⟩ := succ_of hk
    simp only [List.length_nil, Nat.add_zero] at hl
    simp only [spec_l4Put.l0, List.append_nil, Option.bind_some, toNat_cast, List.take_length, List.drop_length, List.nil_append, List.length_nil, List.length_singleton, List.length_append, Nat.zero_add, Nat.add_zero]
    rw [if_neg (by omega), if_pos (by omega), if_pos (by omega), if_pos (by omega), if_pos (by omega), if_pos (by omega)]
    rfl
  | cons y r ih =>
    intro done k hl hk
    obtain ⟨k, rfl⟩ := succ_of hk
    simp only [List.length_cons] at hl hk
    have ht : (done ++ y :: r).take done.length = done := by simp
    have hd : (done ++ y :: r).drop done.length = y :: r := by simp
    have hn : (done ++ y :: r).length = done.length + r.length + 1 := len_at done r y
    simp only [spec_l4Put.l0, Option.bind_some, toNat_cast, ht, hd, List.nil_append, List.length_nil, Nat.zero_add]
    rw [if_pos (by omega), if_pos (by omega), rd_cast, nt_at]
    simp only [putI]
    by_cases h1 : y < x
    · rw [if_pos h1, if_pos h1, wrap_up (n := done.length + 1) (by omega) (by omega)]
      have e := ih (done ++ [y]) k (by rw [len_snoc]; omega) (by omega)
      rw [List.append_assoc, List.singleton_append, len_snoc] at e
      rw [e, List.append_assoc]; rfl
    · rw [if_neg h1, if_neg h1]
      by_cases h2 : y = x
      · rw [if_pos h2, if_pos h2, if_pos (by omega)]
      · rw [if_neg h2, if_neg h2, if_pos (by omega), if_pos (by omega)]
        simp only [List.length_append, List.length_singleton, List.length_cons, List.length_nil, Nat.add_zero, Nat.zero_add]
        rw [if_pos (by omega), if_pos (by omega), List.append_assoc]; rfl
theorem spec_l4Put_eq {l : List Int} {x : Int} {k : Nat} (hl : l.length ≤ 1048576) (hk : l.length < k) : spec_l4Put.f k l x = some (putI l x) := by
  unfold spec_l4Put.f
  exact spec_l4Put_l0 x l [] k (by simp; omega) hk

/-! ### spec_MovesFrom -/
theorem spec_MovesFrom_eq {n : Int} {e : List Bool} {l : List Mv} {a : Int} {s : Bool} {k : Nat} (hl : l.length ≤ 1048576) (hk : 2 * l.length + 2 < k) : spec_MovesFrom.f k n e l a s = some (movesFrom l a s) := by
  unfold spec_MovesFrom.f
  have h := fold_loop (g := fun k acc i => spec_MovesFrom.l0 k a s acc (i : Int) n e l) (n := l.length) (B := l.length + 1) (f := fun i acc => if fromMv a s (nt zMv l i) = true then putI acc (nt zMv l i).f2 else acc) (fin := fun acc => acc) (fun i acc => acc.length ≤ i) (fun k acc _ => by
      simp only [spec_MovesFrom.l0]; rw [if_neg (by omega)])
    (fun k i acc hi hk ha => by
      constructor
      · simp only [spec_MovesFrom.l0]
        rw [if_pos (by omega), if_pos (by omega), rd_Mv, wrap_up (n := l.length) hi (by omega)]
        by_cases h1 : (nt zMv l i).f0 = a
        · rw [if_pos h1]
          cases h2 : ((nt zMv l i).f1 == s) with
          | true => rw [if_pos rfl, if_pos (by simp [fromMv, h1, h2]), spec_l4Put_eq (by omega) (by omega), Option.bind_some]
          | false => rw [if_neg (by simp), if_neg (by simp [fromMv, h2])]
        · rw [if_neg h1, if_neg (by simp [fromMv, h1])]
      · have := putI_length acc (nt zMv l i).f2
        by_cases hq : fromMv a s (nt zMv l i) = true
        · rw [if_pos hq]; omega
        · rw [if_neg hq]; omega) l.length k 0 [] (by omega) (by omega) (by simp)
  have h2 := foldFrom_list (f := fun (acc : List Int) x => if fromMv a s x = true then putI acc x.f2 else acc) (l := l) (z := zMv) (s := [])
  rw [h2] at h
  simpa [movesFrom] using h

/-! ### spec_MoveOf -/
theorem spec_MoveOf_eq {n : Int} {e : List Bool} {l : List Mv} {a : Int} {s : Bool} {m : Int} {k : Nat} (hl : l.length ≤ 1048576) (hk : l.length < k) : spec_MoveOf.f k n e l a s m = some (moveOf l a s m) := by
  unfold spec_MoveOf.f
  have h := find_loop (g := fun k i => spec_MoveOf.l0 k a s m (i : Int) n e l) (l := l) (z := zMv) (B := 0) (p := keyMv a s m) (hit := fun i => (i : Int)) (miss := -1) (fun k => by
      simp only [spec_MoveOf.l0]; rw [if_neg (by omega)])
    (fun k i hi _ => by
      simp only [spec_MoveOf.l0]
      rw [if_pos (by omega), if_pos (by omega), rd_Mv, wrap_up (n := l.length) hi (by omega)]
      by_cases h1 : (nt zMv l i).f0 = a
      · rw [if_pos h1]
        cases h2 : ((nt zMv l i).f1 == s) with
        | true =>
          rw [if_pos rfl]
          by_cases h3 : (nt zMv l i).f2 = m
          · rw [if_pos h3, if_pos (by simp [keyMv, h1, h2, h3])]
          · rw [if_neg h3, if_neg (by simp [keyMv, h3])]
        | false => rw [if_neg (by simp), if_neg (by simp [keyMv, h2])]
      · rw [if_neg h1, if_neg (by simp [keyMv, h1])]) l.length k 0 (by omega) (by omega)
  simpa [moveOf] using h

/-! ### spec_NextPairs -/
theorem spec_NextPairs_l1 {n n2 : Int} {e f : List Bool} {l m : List Mv} {x y : Int} {acc : List (List Int)} {k : Nat} (hl : l.length ≤ 1048576) (hm : m.length ≤ 1048576) (ha : acc.length ≤ 1048576) (hk : 2100000 < k) :
    spec_NextPairs.l1 k x y acc (movesFrom m y true) 0 n e l n2 f m = some (acc ++ ((movesFrom m y true).filter (pairOk l m x y false)).map (pairTo l m x y false)) := by
  have a3 := movesFrom_len m y true
  have h := filter_inner (g := fun k acc i => spec_NextPairs.l1 k x y acc (movesFrom m y true) (i : Int) n e l n2 f m) (l := movesFrom m y true) (z := 0) (B := 1048577) (c := acc.length) (p := pairOk l m x y false) (f := pairTo l m x y false) (cont := fun k acc => some acc) (fun k acc _ _ => by
      simp only [spec_NextPairs.l1]; rw [if_neg (by omega)])
    (fun k i acc hi hk hacc => by
      simp only [spec_NextPairs.l1]
      rw [if_pos (by omega), if_pos (by omega), rd_cast, wrap_up (n := (movesFrom m y true).length) hi (by omega), spec_MoveOf_eq (by omega) (by omega), Option.bind_some, spec_MoveOf_eq (by omega) (by omega), Option.bind_some]
      have hv := (moveOf_any m y true (nt 0 (movesFrom m y true) i)).2 (nt_mem 0 _ i hi)
      unfold pairOk pairTo
      simp only [Bool.not_false]
      rw [decide_eq_true hv, Bool.and_true]
      rcases moveOf_bnd m y true (nt 0 (movesFrom m y true) i) with q | ⟨j2, e2, b2, _⟩
      · omega
      · rcases moveOf_bnd l x false (nt 0 (movesFrom m y true) i) with q | ⟨j, e1, b1, _⟩
        · rw [if_neg (by omega), if_neg (by simp; omega)]
        · rw [if_pos (by omega), if_pos (by omega), if_pos (by omega), if_pos (by omega), if_pos (by omega), if_pos (by omega), if_pos (by simp; omega), e1, e2, rd_Mv, rd_Mv, toNat_cast, toNat_cast]) (movesFrom m y true).length k 0 acc (by omega) (by omega) (by omega)
  rw [List.drop_zero] at h
  exact h
theorem spec_NextPairs_eq {n n2 : Int} {e f : List Bool} {l m : List Mv} {x y : Int} {k : Nat} (hl : l.length ≤ 1048576) (hm : m.length ≤ 1048576) (hk : 4000000 + 3000000 < k) : spec_NextPairs.f k n e l n2 f m x y = some (nextPairs l m x y) := by
  have a3 := movesFrom_len l x true
  unfold spec_NextPairs.f
  rw [spec_MovesFrom_eq (by omega) (by omega), Option.bind_some]
  have h := filter_inner (g := fun k acc i => spec_NextPairs.l0 k x y acc (movesFrom l x true) (i : Int) n e l n2 f m) (l := movesFrom l x true) (z := 0) (B := 4000000) (c := 0) (p := pairOk l m x y true) (f := pairTo l m x y true) (cont := fun k acc => some (acc ++ ((movesFrom m y true).filter (pairOk l m x y false)).map (pairTo l m x y false))) (fun k acc hk ha => by
      simp only [spec_NextPairs.l0]; rw [if_neg (by omega), spec_MovesFrom_eq (by omega) (by omega), Option.bind_some]
      exact spec_NextPairs_l1 hl hm (by omega) (by omega))
    (fun k i acc hi hk hacc => by
      simp only [spec_NextPairs.l0]
      rw [if_pos (by omega), if_pos (by omega), rd_cast, wrap_up (n := (movesFrom l x true).length) hi (by omega), spec_MoveOf_eq (by omega) (by omega), Option.bind_some, spec_MoveOf_eq (by omega) (by omega), Option.bind_some]
      have hv := (moveOf_any l x true (nt 0 (movesFrom l x true) i)).2 (nt_mem 0 _ i hi)
      unfold pairOk pairTo
      simp only [Bool.not_true]
      rw [decide_eq_true hv, Bool.true_and]
      rcases moveOf_bnd l x true (nt 0 (movesFrom l x true) i) with q | ⟨j2, e2, b2, _⟩
      · omega
      · rcases moveOf_bnd m y false (nt 0 (movesFrom l x true) i) with q | ⟨j, e1, b1, _⟩
        · rw [if_neg (by omega), if_neg (by simp; omega)]
        · rw [if_pos (by omega), if_pos (by omega), if_pos (by omega), if_pos (by omega), if_pos (by omega), if_pos (by omega), if_pos (by simp; omega), e1, e2, rd_Mv, rd_Mv, toNat_cast, toNat_cast]) (movesFrom l x true).length k 0 [] (by omega) (by omega) (by simp)
  rw [List.drop_zero, List.nil_append] at h
  exact h

/-! ### spec_l1In -/
theorem spec_l1In_eq (a b c : Int) : spec_l1In.f a b c = some (decide (b ≤ a ∧ a ≤ c)) := by
  unfold spec_l1In.f
  by_cases h : a ≥ b
  · rw [if_pos h]; simp [show b ≤ a from h]
  · rw [if_neg h, decide_eq_false (by omega)]

/-! ### spec_IsMachine -/
theorem spec_IsMachine_eq {n : Int} {e : List Bool} {l : List Mv} {k : Nat} (hk : 1000 < k) : spec_IsMachine.f k n e l = some (isMachine n e l) := by
  unfold spec_IsMachine.f isMachine
  rw [spec_l1In_eq, Option.bind_some]
  obtain ⟨k, rfl⟩ := succ_of hk
  simp only [spec_IsMachine.j0]
  cases h1 : inB n 1 6 with
  | false => rw [if_neg (by simpa [inB] using h1), if_pos trivial]; rfl
  | true =>
    have hN : 1 ≤ n ∧ n ≤ 6 := by simpa [inB] using h1
    rw [if_pos (by simpa [inB] using h1)]
    by_cases h2 : (e.length : Int) = n
    · rw [if_pos h2]
      by_cases h3 : l.length ≤ 12
      · rw [if_neg (by simp; omega), ← good_iff]
        have h := all_loop (g := fun k i => spec_IsMachine.l0 k (i : Int) n e l) (n := l.length) (B := 100) (ok := fun i => okMv n (nt zMv l i) && (!decide (moveOf l (nt zMv l i).f0 (nt zMv l i).f1 (nt zMv l i).f2 < (i : Int)) && !decide (((movesFrom l (nt zMv l i).f0 (!(nt zMv l i).f1)).length : Int) > 0))) (fin := true) (fun k => by
            simp only [spec_IsMachine.l0]; rw [if_neg (by omega)])
          (fun k i hi hk => by
            simp only [spec_IsMachine.l0]
            rw [if_pos (by omega), if_pos (by omega), rd_Mv, wrap_up (n := l.length) hi (by omega), wrap_id (x := n - 1) (by omega) (by omega)]
            simp only [spec_l1In_eq, Option.bind_some, spec_MoveOf_eq (n := n) (e := e) (l := l) (show l.length ≤ 1048576 by omega) (show l.length < k by omega), spec_MovesFrom_eq (n := n) (e := e) (l := l) (show l.length ≤ 1048576 by omega) (show 2 * l.length + 2 < k by omega)]
            have e1 : (decide (0 ≤ (nt zMv l i).f0 ∧ (nt zMv l i).f0 ≤ n - 1)) = inB (nt zMv l i).f0 0 (n - 1) := by simp [inB]
            have e2 : (decide (0 ≤ (nt zMv l i).f3 ∧ (nt zMv l i).f3 ≤ n - 1)) = inB (nt zMv l i).f3 0 (n - 1) := by simp [inB]
            have e3 : (decide (0 ≤ (nt zMv l i).f2 ∧ (nt zMv l i).f2 ≤ 5)) = inB (nt zMv l i).f2 0 5 := by simp [inB]
            simp only [e1, e2, e3]
            by_cases b1 : inB (nt zMv l i).f0 0 (n - 1) = true
            · by_cases b2 : inB (nt zMv l i).f3 0 (n - 1) = true
              · by_cases b3 : inB (nt zMv l i).f2 0 5 = true
                · have b4 : okMv n (nt zMv l i) = true := by simp [okMv, b1, b2, b3]
                  rw [if_pos b1, if_pos b2, if_pos b3]
                  by_cases q1 : moveOf l (nt zMv l i).f0 (nt zMv l i).f1 (nt zMv l i).f2 < (i : Int)
                  · rw [if_pos q1, if_neg (by simp [q1])]
                  · by_cases q2 : ((movesFrom l (nt zMv l i).f0 (!(nt zMv l i).f1)).length : Int) > 0
                    · rw [if_neg q1, if_pos q2, if_neg (by rw [decide_eq_true q2]; simp)]
                    · rw [if_neg q1, if_neg q2, if_pos (by rw [b4, decide_eq_false q1, decide_eq_false q2]; rfl)]
                · rw [if_pos b1, if_pos b2, if_neg b3, if_neg (by simp [okMv, b3])]
              · rw [if_pos b1, if_neg b2, if_neg (by simp [okMv, b2])]
            · rw [if_neg b1, if_neg (by simp [okMv, b1])]) l.length k 0 (by omega) (by omega)
        simpa [h2, h3] using h
      · rw [if_pos (by simp; omega)]; simp [h3]
    · rw [if_neg h2, if_pos trivial]; simp [h2]

/-! ### spec_PairsOf -/
theorem spec_PairsOf_l1 {n n2 : Int} {e f : List Bool} {l m : List Mv} {x6 : Int} {ps : List (List Int)} (hp : ps.length ≤ 1048) (hp2 : ∀ q ∈ ps, q.length ≤ 8) : ∀ (d i k : Nat) (out : List (List Int)), i + d = ps.length → out.length + d ≤ 4194 → (∀ q ∈ out, q.length ≤ 8) → d + 10000 < k →
    spec_PairsOf.l1 k out x6 ps (i : Int) n e l n2 f m = spec_PairsOf.l0 (k - d - 1) (addAll out (ps.drop i)) (wrap64 (x6 + 1)) n e l n2 f m := by
  intro d
  induction d with
  | zero =>
    intro i k out h _ _ hk
    obtain ⟨k, rfl⟩ := succ_of hk
    obtain rfl : i = ps.length := by omega
    simp only [spec_PairsOf.l1]
    rw [if_neg (by omega), drop_end]; rfl
  | succ d ih =>
    intro i k out h ho hq hk
    obtain ⟨k, rfl⟩ := succ_of hk
    simp only [spec_PairsOf.l1]
    rw [if_pos (by omega), if_pos (by omega), rdLL, spec_l14Has_eq (by omega) hq (by omega), Option.bind_some, wrap_up (n := ps.length) (by omega) (by omega), drop_step ps [] i (by omega), addAll_cons]
    have hl := addPair_len out (nt [] ps i)
    by_cases q : nt [] ps i ∈ out
    · rw [decide_eq_true q, if_pos rfl, ih (i + 1) k out (by omega) (by omega) hq (by omega)]
      unfold addPair; rw [if_pos q, show k + 1 - (d + 1) - 1 = k - d - 1 by omega]
    · rw [decide_eq_false q, if_neg (by simp), if_pos (by omega), ih (i + 1) k _ (by omega) (by rw [len_snoc]; omega) (fun z hz => by
        rcases List.mem_append.1 hz with hz | hz
        · exact hq z hz
        · rw [List.mem_singleton] at hz; subst hz; exact hp2 _ (nt_mem [] ps i (by omega))) (by omega)]
      unfold addPair; rw [if_neg q, show k + 1 - (d + 1) - 1 = k - d - 1 by omega]
theorem spec_PairsOf_l0 {n n2 : Int} {e f : List Bool} {l m : List Mv} (h1 : isMachine n e l = true) (h2 : isMachine n2 f m = true) : ∀ (d i k : Nat) (out : List (List Int)), goodPairs n n2 out → 37 ≤ i + d → 7020000 + 200 * d < k → spec_PairsOf.l0 k out (i : Int) n e l n2 f m = some (reachFrom (nextPairs l m) d i out) := by
  have a1 := machine_len h1
  have a2 := machine_len h2
  have hx := okNext_pairs h1 h2
  intro d
  induction d with
  | zero =>
    intro i k out hg hi hk
    obtain ⟨k, rfl⟩ := succ_of hk
    have := good_len a1.2.1 a2.2.1 hg
    simp only [spec_PairsOf.l0]
    rw [if_neg (by omega)]; rfl
  | succ d ih =>
    intro i k out hg hi hk
    obtain ⟨k, rfl⟩ := succ_of hk
    simp only [spec_PairsOf.l0, reachFrom]
    by_cases h : i < out.length
    · obtain ⟨e0, b1, b2, b3, b4⟩ := good_at hg h
      have hL : (nt [] out i).length = 2 := by rw [e0]; rfl
      have hlen := good_len a1.2.1 a2.2.1 hg
      have hln := nextPairs_len l m (nt 0 (nt [] out i) 0) (nt 0 (nt [] out i) 1)
      rw [if_pos (by omega), if_pos (by omega), rdLL, if_pos (by omega), if_pos (by omega), rd_nt0, rd_nt1, spec_NextPairs_eq (by omega) (by omega) (by omega), Option.bind_some, if_pos h]
      have e1 := spec_PairsOf_l1 (n := n) (n2 := n2) (e := e) (f := f) (l := l) (m := m) (x6 := (i : Int)) (ps := nextPairs l m (nt 0 (nt [] out i) 0) (nt 0 (nt [] out i) 1)) (by omega) (fun q hq => by have := okPair_len (hx _ _ b1 b2 b3 b4 q hq); omega) _ 0 k out (Nat.zero_add _) (by omega) (fun q hq => by have := okPair_len (hg.2 q hq); omega) (by omega)
      rw [List.drop_zero, wrap_up (n := out.length) h (by omega)] at e1
      exact e1.trans (ih (i + 1) _ _ (good_next hx hg h) (by omega) (by omega))
    · rw [if_neg (by omega), if_neg h]
theorem spec_PairsOf_eq {n n2 : Int} {e f : List Bool} {l m : List Mv} {k : Nat} (hk : 7040000 < k) : spec_PairsOf.f k n e l n2 f m = some (pairsOf n e l n2 f m) := by
  unfold spec_PairsOf.f pairsOf
  obtain ⟨k, rfl⟩ := succ_of hk
  rw [Option.bind_some, spec_IsMachine_eq (by omega), Option.bind_some]
  cases h1 : isMachine n e l with
  | false => simp only [spec_PairsOf.j0, Bool.false_eq_true, if_false, if_true, Bool.false_and]
  | true =>
    rw [if_pos rfl, spec_IsMachine_eq (by omega), Option.bind_some]
    cases h2 : isMachine n2 f m with
    | false => simp only [spec_PairsOf.j0, Bool.not_false, Bool.false_eq_true, if_false, if_true, Bool.and_false]
    | true =>
      have a1 := machine_len h1
      have a2 := machine_len h2
      simp only [spec_PairsOf.j0, Bool.not_true, Bool.false_eq_true, if_false, Bool.and_self, if_true]
      rw [if_pos (by simp)]
      exact spec_PairsOf_l0 h1 h2 37 0 k [[0, 0]] (good_start a1.1 a2.1) (by omega) (by omega)

/-! ### impl_reached -/
theorem impl_reached_any_eq (out : List (List Int)) (p : List Int) : impl_reached_any.f out p = some (decide (p ∈ out)) := by
  unfold impl_reached_any.f
  refine congrArg some ?_
  rw [Bool.eq_iff_iff, List.any_eq_true, decide_eq_true_eq]
  constructor
  · rintro ⟨x, hx, h⟩
    rw [decide_eq_true_eq] at h
    exact h ▸ hx
  · exact fun h => ⟨p, h, decide_eq_true rfl⟩
theorem impl_reached_l1 [inst_ : KEEP_impl_reached] {x4 : Int} {ps : List (List Int)} (hp : ps.length ≤ 1048576) : ∀ (d i k : Nat) (out : List (List Int)), i + d = ps.length → out.length + d ≤ 4194304 → d < k →
    impl_reached.l1 k out x4 ps (ps.length : Int) (i : Int) = impl_reached.l0 (k - d - 1) (addAll out (ps.drop i)) (wrap64 (x4 + 1)) := by
  intro d
  induction d with
  | zero =>
    intro i k out h _ hk
    obtain ⟨k, rfl⟩ := succ_of hk
    obtain rfl : i = ps.length := by omega
    simp only [impl_reached.l1]
    rw [if_neg (by omega), drop_end]; rfl
  | succ d ih =>
    intro i k out h ho hk
    obtain ⟨k, rfl⟩ := succ_of hk
    simp only [impl_reached.l1]
    rw [if_pos (by omega), if_pos (by omega), if_pos (by omega), rdLL, impl_reached_any_eq, Option.bind_some, wrap_up (n := ps.length) (by omega) (by omega), drop_step ps [] i (by omega), addAll_cons]
    have hl := addPair_len out (nt [] ps i)
    by_cases q : nt [] ps i ∈ out
    · rw [decide_eq_true q, if_pos rfl, ih (i + 1) k out (by omega) (by omega) (by omega)]
      unfold addPair; rw [if_pos q, show k + 1 - (d + 1) - 1 = k - d - 1 by omega]
    · rw [decide_eq_false q, if_neg (by simp), if_pos (by omega), ih (i + 1) k _ (by omega) (by rw [len_snoc]; omega) (by omega)]
      unfold addPair; rw [if_neg q, show k + 1 - (d + 1) - 1 = k - d - 1 by omega]
theorem impl_reached_l0 [inst_ : KEEP_impl_reached] {n m : Int} {nx : Int → Int → List (List Int)} {B : Nat} (hn : n ≤ 6) (hm : m ≤ 6) (hx : okNext n m nx) (hl : ∀ x y, (nx x y).length ≤ 100)
    (hf : ∀ x y k, 0 ≤ x → x < n → 0 ≤ y → y < m → B < k → KEEP_impl_reached.f k x y = some (nx x y)) : ∀ (d i k : Nat) (out : List (List Int)), goodPairs n m out → 37 ≤ i + d → B + 200 * d < k → impl_reached.l0 k out (i : Int) = some (reachFrom nx d i out) := by
  intro d
  induction d with
  | zero =>
    intro i k out hg hi hk
    obtain ⟨k, rfl⟩ := succ_of hk
    have := good_len hn hm hg
    simp only [impl_reached.l0]
    rw [if_neg (by omega)]; rfl
  | succ d ih =>
    intro i k out hg hi hk
    obtain ⟨k, rfl⟩ := succ_of hk
    simp only [impl_reached.l0, reachFrom]
    by_cases h : i < out.length
    · obtain ⟨e, h1, h2, h3, h4⟩ := good_at hg h
      have hL : (nt [] out i).length = 2 := by rw [e]; rfl
      have hlen := good_len hn hm hg
      have hln := hl (nt 0 (nt [] out i) 0) (nt 0 (nt [] out i) 1)
      rw [if_pos (by omega), if_pos (by omega), rdLL, if_pos (by omega), if_pos (by omega), rd_nt0, rd_nt1, hf _ _ k h1 h2 h3 h4 (by omega), Option.bind_some, if_pos h]
      have e1 := impl_reached_l1 (x4 := (i : Int)) (ps := nx (nt 0 (nt [] out i) 0) (nt 0 (nt [] out i) 1)) (by omega) (nx (nt 0 (nt [] out i) 0) (nt 0 (nt [] out i) 1)).length 0 k out (by omega) (by omega) (by omega)
      rw [List.drop_zero, wrap_up (n := out.length) h (by omega)] at e1
      exact e1.trans (ih (i + 1) _ _ (good_next hx hg h) (by omega) (by omega))
    · rw [if_neg (by omega), if_neg h]
theorem impl_reached_eq [inst_ : KEEP_impl_reached] {n m : Int} {nx : Int → Int → List (List Int)} {B k : Nat} (hn : 1 ≤ n ∧ n ≤ 6) (hm : 1 ≤ m ∧ m ≤ 6) (hx : okNext n m nx) (hl : ∀ x y, (nx x y).length ≤ 100)
    (hf : ∀ x y k, 0 ≤ x → x < n → 0 ≤ y → y < m → B < k → KEEP_impl_reached.f k x y = some (nx x y)) (hk : B + 8000 < k) : impl_reached.f k = some (reach nx) := by
  unfold impl_reached.f reach
  exact impl_reached_l0 hn.2 hm.2 hx hl hf 37 0 k [[0, 0]] (good_start hn.1 hm.1) (by omega) (by omega)

/-! ### impl_MoveOf -/
theorem impl_MoveOf_eq (n : Int) (e : List Bool) (l : List Mv) (a : Int) (s : Bool) (m : Int) : impl_MoveOf.f n e l a s m = some (moveOf l a s m) := rfl

/-! ### impl_NextPairs -/
theorem impl_NextPairs_l1 {n n2 : Int} {e f : List Bool} {l m : List Mv} {x y : Int} {s : Bool} {ws : List Bool} {z j : Int} {w : List Int} {acc : List (List Int)} {k : Nat} (hl : l.length ≤ 1048576) (hm : m.length ≤ 1048576) (hw : w.length ≤ 1048576) (ha : acc.length ≤ 1048576) (hk : 1048580 < k) :
    impl_NextPairs.l1 k x y acc s ws z j w (w.length : Int) 0 n e l n2 f m = impl_NextPairs.l0 (k - w.length - 1) x y (acc ++ (w.filter (pairOk l m x y s)).map (pairTo l m x y s)) ws z (wrap64 (j + 1)) n e l n2 f m := by
  have h := filter_inner (g := fun k acc i => impl_NextPairs.l1 k x y acc s ws z j w (w.length : Int) (i : Int) n e l n2 f m) (l := w) (z := 0) (B := 0) (c := acc.length) (p := pairOk l m x y s) (f := pairTo l m x y s) (cont := fun k acc => impl_NextPairs.l0 k x y acc ws z (wrap64 (j + 1)) n e l n2 f m) (fun k acc _ _ => by
      simp only [impl_NextPairs.l1]; rw [if_neg (by omega)])
    (fun k i acc hi hk hacc => by
      simp only [impl_NextPairs.l1]
      rw [if_pos (by omega), if_pos (by omega), if_pos (by omega), rd_cast, wrap_up (n := w.length) hi (by omega), impl_MoveOf_eq, Option.bind_some, impl_MoveOf_eq, Option.bind_some]
      unfold pairOk pairTo
      rcases moveOf_bnd l x s (nt 0 w i) with q | ⟨j2, e2, b2, _⟩
      · rw [if_neg (by omega), if_neg (by simp; omega)]
      · rcases moveOf_bnd m y (!s) (nt 0 w i) with q | ⟨j3, e1, b1, _⟩
        · rw [if_pos (by omega), if_neg (by omega), if_neg (by simp; omega)]
        · rw [if_pos (by omega), if_pos (by omega), if_pos (by omega), if_pos (by omega), if_pos (by omega), if_pos (by omega), if_pos (by omega), if_pos (by simp; omega), e1, e2, rd_Mv, rd_Mv, toNat_cast, toNat_cast]) w.length k 0 acc (by omega) (by omega) (by omega)
  rw [List.drop_zero] at h
  exact h
theorem impl_NextPairs_eq {n n2 : Int} {e f : List Bool} {l m : List Mv} {x y : Int} {k : Nat} (hl : l.length ≤ 1048576) (hm : m.length ≤ 1048576) (hk : 4000000 + 3000000 < k) : impl_NextPairs.f k n e l n2 f m x y = some (nextPairs l m x y) := by
  have a3 := movesFrom_len l x true
  have a4 := movesFrom_len m y true
  have c1 := List.length_filter_le (pairOk l m x y true) (movesFrom l x true)
  unfold impl_NextPairs.f
  rw [Option.bind_some]
  obtain ⟨k, rfl⟩ : ∃ k', k = k' + 2 := ⟨k - 2, by omega⟩
  have r0 : rdOf false [true, false] 0 = true := rfl
  have r1 : rdOf false [true, false] 1 = false := rfl
  have q0 : (([true, false] : List Bool).length : Int) = 2 := rfl
  simp only [impl_NextPairs.l0, q0]
  rw [if_pos (by omega), if_pos (by omega), if_pos (by omega), impl_MovesFrom_eq (by omega) (by omega), Option.bind_some, r0, if_pos rfl]
  simp only [impl_NextPairs.j1]
  rw [impl_NextPairs_l1 hl hm (by omega) (by simp) (by omega)]
  obtain ⟨k2, e2⟩ : ∃ k2, k - (movesFrom l x true).length - 1 = k2 + 2 := ⟨k - (movesFrom l x true).length - 1 - 2, by omega⟩
  rw [e2, show wrap64 (0 + 1) = 1 by rw [wrap_id (by omega) (by omega)]; rfl]
  simp only [impl_NextPairs.l0]
  rw [if_pos (by omega), if_pos (by omega), if_pos (by rw [q0]; omega), impl_MovesFrom_eq (by omega) (by omega), Option.bind_some, r1, if_neg (by simp), impl_MovesFrom_eq (by omega) (by omega), Option.bind_some]
  simp only [impl_NextPairs.j1]
  rw [impl_NextPairs_l1 hl hm (by omega) (by rw [List.nil_append, List.length_map]; omega) (by omega)]
  obtain ⟨k3, e3⟩ : ∃ k3, k2 - (movesFrom m y true).length - 1 = k3 + 1 := ⟨k2 - (movesFrom m y true).length - 1 - 1, by omega⟩
  rw [e3, show wrap64 (1 + 1) = 2 by rw [wrap_id (by omega) (by omega)]; rfl]
  simp only [impl_NextPairs.l0]
  rw [if_neg (by omega), List.nil_append]; rfl

/-! ### impl_InRange -/
theorem impl_InRange_eq (a b c : Int) : impl_InRange.f a b c = some (decide (b ≤ a ∧ a ≤ c)) := by
  unfold impl_InRange.f
  by_cases h : b ≤ a
  · rw [if_pos h]; simp [h]
  · rw [if_neg h, decide_eq_false (by omega)]

/-! ### impl_IsMachine -/
theorem impl_IsMachine_l1 {n : Int} {e : List Bool} {l : List Mv} {i : Nat} (hi : i < l.length) (hl : l.length ≤ 12) {k : Nat} (hk : i < k) : impl_IsMachine.l1 k l (l.length : Int) (i : Int) (l.take i) ((l.take i).length : Int) 0 n e l (nt zMv l i).f0 (nt zMv l i).f1 (nt zMv l i).f2 (nt zMv l i).f3
    = if allFrom (fun j => !clashMv (nt zMv l j) (nt zMv l i)) 0 i = true then impl_IsMachine.l0 (k - i - 1) l (l.length : Int) ((i + 1 : Nat) : Int) n e l else some false := by
  have ht : (l.take i).length = i := by rw [List.length_take]; omega
  have hnt : ∀ j, j < i → nt zMv (l.take i) j = nt zMv l j := fun j hj => by rw [nt_lt _ _ _ (by omega), nt_lt _ _ _ (by omega), List.getElem_take]
  exact inner_loop (g := fun k j => impl_IsMachine.l1 k l (l.length : Int) (i : Int) (l.take i) ((l.take i).length : Int) (j : Int) n e l (nt zMv l i).f0 (nt zMv l i).f1 (nt zMv l i).f2 (nt zMv l i).f3) (n := i) (cont := fun k => impl_IsMachine.l0 k l (l.length : Int) ((i + 1 : Nat) : Int) n e l) (fun k => by
      simp only [impl_IsMachine.l1]; rw [if_neg (by omega), wrap_up (n := l.length) hi (by omega)])
    (fun k j hj => by
      simp only [impl_IsMachine.l1]
      rw [if_pos (by omega), if_pos (by omega), if_pos (by omega), rd_Mv, hnt j hj, wrap_up (n := i) hj (by omega)]
      by_cases h1 : (nt zMv l j).f0 = (nt zMv l i).f0
      · rw [if_pos h1]
        cases h2 : ((nt zMv l j).f1 == (nt zMv l i).f1) with
        | false => rw [if_pos (by simp only [bne, h2, Bool.not_false]), if_neg (by simp [clashMv, h1, h2])]
        | true =>
          rw [if_neg (by simp only [bne, h2, Bool.not_true]; simp)]
          by_cases h3 : (nt zMv l j).f2 = (nt zMv l i).f2
          · rw [if_pos h3, if_neg (by simp [clashMv, h1, h3])]
          · rw [if_neg h3, if_pos (by simp [clashMv, h2, h3])]
      · rw [if_neg h1, if_pos (by simp [clashMv, h1])]) i k 0 (by omega) (by omega)
theorem impl_IsMachine_l0 {n : Int} {e : List Bool} {l : List Mv} (hN : 1 ≤ n ∧ n ≤ 6) (hl : l.length ≤ 12) : ∀ (d k i : Nat), i + d = l.length → 20 * d + 20 < k → impl_IsMachine.l0 k l (l.length : Int) (i : Int) n e l
    = some (allFrom (fun i => okMv n (nt zMv l i) && allFrom (fun j => !clashMv (nt zMv l j) (nt zMv l i)) 0 i) i d) := by
  intro d
  induction d with
  | zero =>
    intro k i h hk
    obtain ⟨k, rfl⟩ := succ_of hk
    simp only [impl_IsMachine.l0]; rw [if_neg (by omega)]; rfl
  | succ d ih =>
    intro k i h hk
    obtain ⟨k, rfl⟩ : ∃ k', k = k' + 2 := ⟨k - 2, by omega⟩
    simp only [impl_IsMachine.l0]
    rw [if_pos (by omega), if_pos (by omega), if_pos (by omega), rd_Mv, wrap_id (x := n - 1) (by omega) (by omega)]
    simp only [impl_InRange_eq, Option.bind_some]
    have e1 : (decide (0 ≤ (nt zMv l i).f0 ∧ (nt zMv l i).f0 ≤ n - 1)) = inB (nt zMv l i).f0 0 (n - 1) := by simp [inB]
    have e2 : (decide (0 ≤ (nt zMv l i).f3 ∧ (nt zMv l i).f3 ≤ n - 1)) = inB (nt zMv l i).f3 0 (n - 1) := by simp [inB]
    have e3 : (decide (0 ≤ (nt zMv l i).f2 ∧ (nt zMv l i).f2 ≤ 5)) = inB (nt zMv l i).f2 0 5 := by simp [inB]
    simp only [e1, e2, e3, allFrom, okMv, impl_IsMachine.j2, Option.bind_some, toNat_cast]
    cases inB (nt zMv l i).f0 0 (n - 1) <;> cases inB (nt zMv l i).f3 0 (n - 1) <;> cases inB (nt zMv l i).f2 0 5 <;> simp only [Bool.false_eq_true, if_false, if_true, Bool.false_and, Bool.true_and, Bool.and_false, Bool.not_true, Bool.not_false]
    rw [if_pos (by omega), if_pos (by omega), impl_IsMachine_l1 (by omega) hl (by omega)]
    by_cases hc : allFrom (fun j => !clashMv (nt zMv l j) (nt zMv l i)) 0 i = true
    · rw [if_pos hc, hc, ih _ (i + 1) (by omega) (by omega)]; simp [okMv]
    · rw [if_neg hc]; simp only [Bool.not_eq_true] at hc; rw [hc]; rfl
theorem impl_IsMachine_eq {n : Int} {e : List Bool} {l : List Mv} {k : Nat} (hk : 1000 < k) : impl_IsMachine.f k n e l = some (isMachine n e l) := by
  unfold impl_IsMachine.f isMachine
  rw [impl_InRange_eq, Option.bind_some]
  obtain ⟨k, rfl⟩ := succ_of hk
  simp only [impl_IsMachine.j0]
  cases h1 : inB n 1 6 with
  | false => rw [if_neg (by simpa [inB] using h1), if_pos trivial]; rfl
  | true =>
    have hN : 1 ≤ n ∧ n ≤ 6 := by simpa [inB] using h1
    rw [if_pos (by simpa [inB] using h1)]
    by_cases h2 : (e.length : Int) = n
    · rw [if_pos h2]
      by_cases h3 : l.length ≤ 12
      · rw [if_neg (by simp; omega)]
        have h := impl_IsMachine_l0 (e := e) hN h3 l.length k 0 (by omega) (by omega)
        simpa [h2, h3] using h
      · rw [if_pos (by simp; omega)]; simp [h3]
    · rw [if_neg h2, if_pos trivial]; simp [h2]

/-! ### impl_PairsOf -/
theorem impl_PairsOf_eq {n n2 : Int} {e f : List Bool} {l m : List Mv} {k : Nat} (hl : l.length ≤ 1048576) (hm : m.length ≤ 1048576) (hk : 7010000 < k) : impl_PairsOf.f k n e l n2 f m = some (pairsOf n e l n2 f m) := by
  unfold impl_PairsOf.f pairsOf
  rw [impl_IsMachine_eq (by omega), Option.bind_some]
  cases h1 : isMachine n e l with
  | false => rw [if_neg (by simp), if_neg (by simp)]
  | true =>
    rw [if_pos rfl, impl_IsMachine_eq (by omega), Option.bind_some]
    cases h2 : isMachine n2 f m with
    | false => rw [if_neg (by simp), if_neg (by simp)]
    | true =>
      have a1 := machine_len h1
      have a2 := machine_len h2
      rw [if_pos rfl, if_pos (by simp)]
      unfold impl_PairsOf_reach.f
      rw [@impl_reached_eq ⟨fun k_ x_ y_ => impl_NextPairs.f k_ n e l n2 f m x_ y_, fun x_ y_ k_ => impl_NextPairs.mono n e l n2 f m x_ y_ k_⟩ n n2 (nextPairs l m) 7000000 k ⟨a1.1, a1.2.1⟩ ⟨a2.1, a2.2.1⟩ (okNext_pairs h1 h2) (fun x y => by have := nextPairs_len l m x y; omega) (fun x y k _ _ _ _ hk => impl_NextPairs_eq hl hm (by omega)) (by omega), Option.bind_some]

end FnExactPairsOfAid
open FnExactPairsOfAid

theorem FnExactPairsOf : laws_FnExactPairsOf.Pure := by
  intro a e m b f n ha he _ hm _ hb hf _ hn _
  obtain ⟨k, hk⟩ : ∃ k, k = 8020000 := ⟨_, rfl⟩
  refine ⟨k + 1, ?_⟩
  unfold laws_FnExactPairsOf.f
  rw [laws_szMachine_eq (by omega) (by omega) he hm, Option.bind_some]
  by_cases hb : (1048576 : Int) < e.length + m.length
  · rw [if_pos hb, if_pos (by omega)]
  · rw [if_neg hb, if_neg (by omega), laws_szMachine_eq (by omega) (by omega) hf hn, Option.bind_some]
    by_cases hc : (1048576 : Int) - (e.length + m.length) < f.length + n.length
    · rw [if_pos hc, if_pos (by omega)]
    · rw [if_neg hc, if_neg (by omega)]
      obtain ⟨M, hM⟩ : ∃ M, M = m.map convMv := ⟨_, rfl⟩
      have lM : M.length = m.length := by rw [hM]; exact List.length_map ..
      obtain ⟨N, hN⟩ : ∃ N, N = n.map convMv := ⟨_, rfl⟩
      have lN : N.length = n.length := by rw [hN]; exact List.length_map ..
      obtain ⟨c, q⟩ : ∃ c : List (List Int), c = pairsOf a e M b f N := ⟨_, rfl⟩
      have hq : c.length ≤ 1048576 := by rw [q]; have h_ := (pairsOf_len2 a e M b f N).1; omega
      have hr : inLL c = 2 * c.length := by rw [q]; exact inLL_two ((pairsOf_len2 a e M b f N).2)
      have hs : inLL c ≤ 4194304 := by have h_ := (pairsOf_len2 a e M b f N).1; rw [← q] at h_; omega
      have F : ∀ k, 8010000 < k → laws_toMachine.f k a e m = some (a, e, M) ∧ laws_toMachine.f k b f n = some (b, f, N) ∧ laws_eqMachine.f k a e M a e M = some true ∧ laws_eqMachine.f k b f N b f N = some true ∧ spec_PairsOf.f k a e M b f N = some c ∧ impl_PairsOf.f k a e M b f N = some c ∧ laws_eqIntSS.f k c c = some true ∧
          laws_markMachine.f k a e M 1 = some (1 + (e.length : Int) + 4 * M.length, markBs 1 e, markMvs (1 + e.length) M) ∧ laws_markMachine.f k b f N (1 + (e.length : Int) + 4 * M.length) = some (1 + (e.length : Int) + 4 * M.length + f.length + 4 * N.length, markBs (1 + (e.length : Int) + 4 * M.length) f, markMvs (1 + (e.length : Int) + 4 * M.length + f.length) N) ∧
          laws_markIntSS.f k c 1 = some (1 + (inLL c : Int), markLL 1 c) ∧ laws_heldIntSS.f k (markLL 1 c) 1 = some (1 + (inLL c : Int)) := fun k hk =>
        ⟨by rw [laws_toMachine_eq (by omega) (by omega) (by omega), hM], by rw [laws_toMachine_eq (by omega) (by omega) (by omega), hN], laws_eqMachine_self (by omega) (by omega) (by omega), laws_eqMachine_self (by omega) (by omega) (by omega), by rw [spec_PairsOf_eq (by omega), q], by rw [impl_PairsOf_eq (by omega) (by omega) (by omega), q], laws_eqIntSS_self (by omega) (by omega) (by omega), laws_markMachine_eq (by omega) (by omega) (by omega) (by omega) (by omega), laws_markMachine_eq (by omega) (by omega) (by omega) (by omega) (by omega), laws_markIntSS_eq (by omega) (by omega) (by omega) (by omega) (by omega), laws_heldIntSS_eq (by omega) (by omega) (by omega) (by omega) (by omega)⟩
      obtain ⟨f1, f2, f3, f4, f5, f6, f7, f8, f9, f10, f11⟩ := F k (by omega)
      obtain ⟨g1, g2, g3, g4, g5, g6, g7, g8, g9, g10, g11⟩ := F (k + 1) (by omega)
      have p1 : ¬ (1 + (e.length : Int) + 4 * M.length + f.length + 4 * N.length < 0) := by omega
      have p2 : ¬ (1 + (inLL c : Int) < 0) := by omega
      simp only [laws_FnExactPairsOf.j0, f1, f2, f3, f4, f5, f6, f7, f8, f9, f10, f11, g1, g2, g3, g4, g5, g6, g7, g8, g9, g10, g11, p1, p2, Option.bind_some, Bool.false_eq_true, if_true, if_false, ↓reduceIte, bne_self_eq_false, Bool.not_true, Bool.not_false, Nat.le_add_right, Nat.le_refl]

end Go.Proofs.Ytmenijbpglknbaa.Pure
