/- RunMachine of the program and of the reference agree on every machine and every word, as a statement over lists alone; the bounds are those of memory. -/
import Derived.Test.YtfnbfconhpppfaaPFnExactRunMachinex8
import Derived.Test.YtfnbfconhpppfaaGb
import Derived.Test.YtfnbfconhpppfaaGr
import Derived.Test.YtfnbfconhpppfaaGm
namespace Go.Proofs.Ytfnbfconhpppfaa.Pure
open Go.RowKit Go.Proofs.Ytfnbfconhpppfaa.PFnExactRunMachine Go.Proofs.YtfnbfconhpppfaaW.PrintWords Go.Proofs.YtfnbfconhpppfaaW.PrintLast Go.Proofs.Ytfnbfconhpppfaa.Gb Go.Proofs.Ytfnbfconhpppfaa.Gr Go.Proofs.Ytfnbfconhpppfaa.Gm Go.Proofs.Ytfnbfconhpppfaa
set_option linter.unusedSimpArgs false
set_option linter.unusedVariables false
namespace FnExactRunMachineAid

/-! ### T_Move -/
abbrev Mv := S80
abbrev LMv := S102
abbrev zMv : Mv := z80
abbrev zLMv : LMv := z102
theorem rd_Mv (l : List Mv) (i : Nat) : rd_T80 l (i : Int) = nt zMv l i := by simp [rd_T80, nt]
theorem rd_LMv (l : List LMv) (i : Nat) : rd_T102 l (i : Int) = nt zLMv l i := by simp [rd_T102, nt]
def convMv (x : LMv) : Mv := ⟨x.f0, x.f1, x.f2, x.f3⟩
def sameMv (x y : Mv) : Bool := (x.f0 == y.f0) && ((x.f1 == y.f1) && ((x.f2 == y.f2) && (x.f3 == y.f3)))
theorem sameMv_self (x : Mv) : sameMv x x = true := by simp [sameMv]
def eqBs (a b : List Bool) : Bool := decide (a.length = b.length) && allFrom (fun i => nt false a i == nt false b i) 0 a.length
def eqMvs (a b : List Mv) : Bool := decide (a.length = b.length) && allFrom (fun i => sameMv (nt zMv a i) (nt zMv b i)) 0 a.length
theorem rdb_cast (xs : List Bool) (i : Nat) : rdOf false xs (i : Int) = nt false xs i := rdOf_cast false xs i

/-! ### laws_szMachine -/
theorem laws_szMachine_eq {x : Int} {e : List Bool} {m : List LMv} {a : Int} (h0 : 0 ≤ a) (h1 : a ≤ 1048576) (he : e.length ≤ 9223372036854775807) (hm : m.length ≤ 9223372036854775807) : laws_szMachine.f x e m a = some (if a < e.length + m.length then -1 else a - (e.length + m.length)) := by
  unfold laws_szMachine.f laws_szBoolS.f
  rw [wrap_id (by omega) (by omega)]
  by_cases h : a - e.length < (0 : Int)
  · rw [if_pos h, Option.bind_some, if_pos (by omega), if_pos (by omega)]
  · rw [if_neg h, Option.bind_some, if_neg h]
    unfold laws_szMoveS.f
    rw [wrap_id (by omega) (by omega)]
    by_cases h2 : a - e.length - m.length < (0 : Int)
    · rw [if_pos h2, Option.bind_some, if_pos (by omega), if_pos (by omega)]
    · rw [if_neg h2, Option.bind_some, if_neg h2, if_neg (by omega)]; congr 1; omega

/-! ### laws_toMachine -/
theorem laws_toBoolS_eq {l : List Bool} {k : Nat} (hl : l.length ≤ 1048576) (hk : l.length < k) : laws_toBoolS.f k l = some l := by
  unfold laws_toBoolS.f
  rw [if_pos (by omega), toNat_cast, if_pos (by omega)]
  have h := map_loop (g := fun k acc i => laws_toBoolS.l0 k l acc (i : Int)) (l := l) (z := false) (zb := false) (f := id) (B := 0) (fun k acc ha => by
      simp only [laws_toBoolS.l0]; rw [if_neg (by omega)])
    (fun k i acc hi _ ha => by
      simp only [laws_toBoolS.l0]
      rw [if_pos (by omega), if_pos (by omega), rdb_cast, if_pos (by omega), wrap_up (n := l.length) hi (by omega), toNat_cast]; rfl) l.length k 0 (by omega) (by omega)
  simpa using h
theorem laws_toMoveS_eq {l : List LMv} {k : Nat} (hl : l.length ≤ 1048576) (hk : l.length < k) : laws_toMoveS.f k l = some (l.map convMv) := by
  unfold laws_toMoveS.f
  rw [if_pos (by omega), toNat_cast, if_pos (by omega)]
  have h := map_loop (g := fun k acc i => laws_toMoveS.l0 k l acc (i : Int)) (l := l) (z := zLMv) (zb := zMv) (f := convMv) (B := 0) (fun k acc ha => by
      simp only [laws_toMoveS.l0]; rw [if_neg (by omega)])
    (fun k i acc hi _ ha => by
      simp only [laws_toMoveS.l0]
      rw [if_pos (by omega), if_pos (by omega), rd_LMv]
      simp only [laws_toMove.f, Option.bind_some]
      rw [if_pos (by omega), wrap_up (n := l.length) hi (by omega), toNat_cast]; rfl) l.length k 0 (by omega) (by omega)
  simpa using h
theorem laws_toMachine_eq {x : Int} {e : List Bool} {m : List LMv} {k : Nat} (he : e.length ≤ 1048576) (hm : m.length ≤ 1048576) (hk : 1048577 < k) : laws_toMachine.f k x e m = some (x, e, m.map convMv) := by
  unfold laws_toMachine.f
  rw [laws_toBoolS_eq he (by omega), Option.bind_some, laws_toMoveS_eq hm (by omega), Option.bind_some]

/-! ### laws_eqMachine -/
theorem laws_eqBoolS_self {l : List Bool} {k : Nat} (hl : l.length ≤ 9223372036854775807) (hk : l.length < k) : laws_eqBoolS.f k l l = some true := by
  unfold laws_eqBoolS.f
  rw [if_pos rfl]
  exact pass_loop (g := fun k i => laws_eqBoolS.l0 k l l (i : Int)) (n := l.length) (B := 0) (fun k => by
      simp only [laws_eqBoolS.l0]; rw [if_neg (by omega)])
    (fun k i hi hk => by
      simp only [laws_eqBoolS.l0]
      rw [if_pos (by omega), if_pos (by omega), if_pos (by omega), wrap_up (n := l.length) hi hl, if_neg (by simp)]) l.length k 0 (by omega) (by omega)
theorem laws_eqMoveS_self {l : List Mv} {k : Nat} (hl : l.length ≤ 9223372036854775807) (hk : l.length < k) : laws_eqMoveS.f k l l = some true := by
  unfold laws_eqMoveS.f
  rw [if_pos rfl]
  exact pass_loop (g := fun k i => laws_eqMoveS.l0 k l l (i : Int)) (n := l.length) (B := 0) (fun k => by
      simp only [laws_eqMoveS.l0]; rw [if_neg (by omega)])
    (fun k i hi hk => by
      simp only [laws_eqMoveS.l0]
      rw [if_pos (by omega), if_pos (by omega), if_pos (by omega), wrap_up (n := l.length) hi hl]
      simp only [laws_eqMove.f, if_true, bne_self_eq_false, Bool.false_eq_true, if_false, Option.bind_some]) l.length k 0 (by omega) (by omega)
theorem laws_eqMachine_self {x : Int} {e : List Bool} {m : List Mv} {k : Nat} (he : e.length ≤ 1048576) (hm : m.length ≤ 1048576) (hk : 1048577 < k) : laws_eqMachine.f k x e m x e m = some true := by
  unfold laws_eqMachine.f
  rw [if_pos rfl, laws_eqBoolS_self (by omega) (by omega), Option.bind_some, if_pos rfl, laws_eqMoveS_self (by omega) (by omega), Option.bind_some, if_pos rfl]

/-! ### laws_toIntS -/
theorem laws_toIntS_l0 (l : List Int) (hl : l.length ≤ 9223372036854775807) : ∀ (d k i : Nat), i + d = l.length → d < k → laws_toIntS.l0 k l (l.take i ++ List.replicate (l.length - i) 0) (i : Int) = some l := by
  intro d
  induction d with
  | zero =>
    intro k i h hk
    obtain ⟨k, rfl⟩ := succ_of hk
    obtain rfl : i = l.length := by omega
    simp only [laws_toIntS.l0]; rw [if_neg (by omega), take_all]
  | succ d ih =>
    intro k i h hk
    obtain ⟨k, rfl⟩ := succ_of hk
    simp only [laws_toIntS.l0]
    rw [if_pos (by omega), if_pos (by omega), if_pos (by rw [List.length_append, List.length_take, List.length_replicate]; omega), wrap_up (n := l.length) (by omega) hl, rd_cast, toNat_cast, set_grow _ _ _ (by omega)]
    exact ih k (i + 1) (by omega) (by omega)
theorem laws_toIntS_eq {l : List Int} {k : Nat} (hl : l.length ≤ 35184372088832) (hk : l.length < k) : laws_toIntS.f k l = some l := by
  unfold laws_toIntS.f
  rw [if_pos (by omega), toNat_cast, if_pos hl, ← take_none l 0]
  exact laws_toIntS_l0 l (by omega) l.length k 0 (by omega) hk

/-! ### laws_eqIntS -/
theorem laws_eqIntS_l0 (a b : List Int) (hl : a.length ≤ 9223372036854775807) (he : b.length = a.length) : ∀ (d k i : Nat), i + d = a.length → d < k → laws_eqIntS.l0 k a b (i : Int) = some (decide (a.drop i = b.drop i)) := by
  intro d
  induction d with
  | zero =>
    intro k i h hk
    obtain ⟨k, rfl⟩ := succ_of hk
    obtain rfl : i = a.length := by omega
    simp only [laws_eqIntS.l0]; rw [if_neg (by omega), drop_end, ← he, drop_end, decide_eq_true rfl]
  | succ d ih =>
    intro k i h hk
    obtain ⟨k, rfl⟩ := succ_of hk
    simp only [laws_eqIntS.l0]
    rw [if_pos (by omega), if_pos (by omega), if_pos (by omega), wrap_up (n := a.length) (by omega) hl, rd_cast, rd_cast, drop_step a 0 i (by omega), drop_step b 0 i (by omega), ih k (i + 1) (by omega) (by omega)]
    by_cases e : nt 0 a i = nt 0 b i
    · rw [if_pos e, e]; simp
    · rw [if_neg e]; simp [e]
theorem laws_eqIntS_eq {a b : List Int} {k : Nat} (hl : a.length ≤ 9223372036854775807) (hk : a.length < k) : laws_eqIntS.f k a b = some (decide (a = b)) := by
  unfold laws_eqIntS.f
  by_cases e : a.length = b.length
  · rw [if_pos (by omega)]
    exact laws_eqIntS_l0 a b hl e.symm a.length k 0 (by omega) hk
  · rw [if_neg (by omega), decide_eq_false (fun h => e (by rw [h]))]
theorem laws_eqIntS_self {a : List Int} {k : Nat} (hl : a.length ≤ 9223372036854775807) (hk : a.length < k) : laws_eqIntS.f k a a = some true := by
  rw [laws_eqIntS_eq hl hk, decide_eq_true rfl]

/-! ### T_MoveOf -/
def keyMv (a : Int) (s : Bool) (m : Int) (x : Mv) : Bool := (x.f0 == a) && ((x.f1 == s) && (x.f2 == m))
def moveOf (l : List Mv) (a : Int) (s : Bool) (m : Int) : Int := (l.findIdx? (keyMv a s m)).elim (-1) fun j => (j : Int)

/-! ### spec_MoveOf -/
theorem spec_MoveOf_eq {n : Int} {e : List Bool} {l : List Mv} {a : Int} {s : Bool} {m : Int} {k : Nat} (hl : l.length ≤ 1048576) (hk : l.length < k) : spec_MoveOf.f k n e l a s m = some (moveOf l a s m) := by
  unfold spec_MoveOf.f
  have h := find_loop (g := fun k i => spec_MoveOf.l0 k a s m (i : Int) n e l) (l := l) (z := zMv) (B := 0) (p := keyMv a s m) (hit := fun i => (i : Int)) (miss := -1) (fun k => by
      simp only [spec_MoveOf.l0]; rw [if_neg (by omega)])
    (fun k i hi _ => by
      simp only [spec_MoveOf.l0]
      rw [if_pos (by omega), if_pos (by omega), rd_Mv, wrap_up (n := l.length) hi (by omega)]
      by_cases h1 : (nt zMv l i).f0 = a
      · rw [if_pos h1]
        cases h2 : ((nt zMv l i).f1 == s) with
        | true =>
          rw [if_pos rfl]
          by_cases h3 : (nt zMv l i).f2 = m
          · rw [if_pos h3, if_pos (by simp [keyMv, h1, h2, h3])]
          · rw [if_neg h3, if_neg (by simp [keyMv, h3])]
        | false => rw [if_neg (by simp), if_neg (by simp [keyMv, h2])]
      · rw [if_neg h1, if_neg (by simp [keyMv, h1])]) l.length k 0 (by omega) (by omega)
  simpa [moveOf] using h

/-! ### impl_MoveOf -/
theorem impl_MoveOf_eq (n : Int) (e : List Bool) (l : List Mv) (a : Int) (s : Bool) (m : Int) : impl_MoveOf.f n e l a s m = some (moveOf l a s m) := rfl

/-! ### T_inB -/
def inB (x a b : Int) : Bool := decide (a ≤ x) && decide (x ≤ b)
theorem inB_dec (x a b : Int) : decide (a ≤ x ∧ x ≤ b) = inB x a b := by simp [inB]

/-! ### T_put -/
/-- (putI: a number put into an ascending list: the library text Gm.) -/
theorem putI_nil (x : Int) : putI [] x = [x] := rfl

/-! ### spec_l4Put -/
theorem spec_l4Put_l0 (x : Int) : ∀ (rest done : List Int) (k : Nat), done.length + rest.length ≤ 2097152 → rest.length < k → spec_l4Put.l0 k (done ++ rest) x (done.length : Int) = some (done ++ putI rest x) := by
  intro rest
  induction rest with
  | nil =>
    intro done k hl hk
    obtain ⟨k, rfl⟩ := succ_of hk
    simp only [List.length_nil, Nat.add_zero] at hl
    simp only [spec_l4Put.l0, List.append_nil, Option.bind_some, toNat_cast, List.take_length, List.drop_length, List.nil_append, List.length_nil, List.length_singleton, List.length_append, Nat.zero_add, Nat.add_zero]
    rw [if_neg (by omega), if_pos (by omega), if_pos (by omega), if_pos (by omega), if_pos (by omega), if_pos (by omega)]
    rfl
  | cons y r ih =>
    intro done k hl hk
    obtain ⟨k, rfl⟩ := succ_of hk
    simp only [List.length_cons] at hl hk
    have ht : (done ++ y :: r).take done.length = done := by simp
    have hd : (done ++ y :: r).drop done.length = y :: r := by simp
    have hn : (done ++ y :: r).length = done.length + r.length + 1 := len_at done r y
    simp only [spec_l4Put.l0, Option.bind_some, toNat_cast, ht, hd, List.nil_append, List.length_nil, Nat.zero_add]
    rw [if_pos (by omega), if_pos (by omega), rd_cast, nt_at]
    simp only [putI]
    by_cases h1 : y < x
    · rw [if_pos h1, if_pos h1, wrap_up (n := done.length + 1) (by omega) (by omega)]
      have e := ih (done ++ [y]) k (by rw [len_snoc]; omega) (by omega)
      rw [List.append_assoc, List.singleton_append, len_snoc] at e
      rw [e, List.append_assoc]; rfl
    · rw [if_neg h1, if_neg h1]
      by_cases h2 : y = x
      · rw [if_pos h2, if_pos h2, if_pos (by omega)]
      · rw [if_neg h2, if_neg h2, if_pos (by omega), if_pos (by omega)]
        simp only [List.length_append, List.length_singleton, List.length_cons, List.length_nil, Nat.add_zero, Nat.zero_add]
        rw [if_pos (by omega), if_pos (by omega), List.append_assoc]; rfl
theorem spec_l4Put_eq {l : List Int} {x : Int} {k : Nat} (hl : l.length ≤ 1048576) (hk : l.length < k) : spec_l4Put.f k l x = some (putI l x) := by
  unfold spec_l4Put.f
  exact spec_l4Put_l0 x l [] k (by simp; omega) hk

/-! ### spec_MovesFrom -/
def fromMv (a : Int) (s : Bool) (x : Mv) : Bool := (x.f0 == a) && (x.f1 == s)
def movesFrom (l : List Mv) (a : Int) (s : Bool) : List Int := l.foldl (fun acc x => if fromMv a s x = true then putI acc x.f2 else acc) []
theorem spec_MovesFrom_eq {n : Int} {e : List Bool} {l : List Mv} {a : Int} {s : Bool} {k : Nat} (hl : l.length ≤ 1048576) (hk : 2 * l.length + 2 < k) : spec_MovesFrom.f k n e l a s = some (movesFrom l a s) := by
  unfold spec_MovesFrom.f
  have h := fold_loop (g := fun k acc i => spec_MovesFrom.l0 k a s acc (i : Int) n e l) (n := l.length) (B := l.length + 1) (f := fun i acc => if fromMv a s (nt zMv l i) = true then putI acc (nt zMv l i).f2 else acc) (fin := fun acc => acc) (fun i acc => acc.length ≤ i) (fun k acc _ => by
      simp only [spec_MovesFrom.l0]; rw [if_neg (by omega)])
    (fun k i acc hi hk ha => by
      constructor
      · simp only [spec_MovesFrom.l0]
        rw [if_pos (by omega), if_pos (by omega), rd_Mv, wrap_up (n := l.length) hi (by omega)]
        by_cases h1 : (nt zMv l i).f0 = a
        · rw [if_pos h1]
          cases h2 : ((nt zMv l i).f1 == s) with
          | true => rw [if_pos rfl, if_pos (by simp [fromMv, h1, h2]), spec_l4Put_eq (by omega) (by omega), Option.bind_some]
          | false => rw [if_neg (by simp), if_neg (by simp [fromMv, h2])]
        · rw [if_neg h1, if_neg (by simp [fromMv, h1])]
      · have := putI_length acc (nt zMv l i).f2
        by_cases hq : fromMv a s (nt zMv l i) = true
        · rw [if_pos hq]; omega
        · rw [if_neg hq]; omega) l.length k 0 [] (by omega) (by omega) (by simp)
  have h2 := foldFrom_list (f := fun (acc : List Int) x => if fromMv a s x = true then putI acc x.f2 else acc) (l := l) (z := zMv) (s := [])
  rw [h2] at h
  simpa [movesFrom] using h
theorem movesFrom_nonempty (a : Int) (s : Bool) : ∀ (l : List Mv) (acc : List Int), (0 < (l.foldl (fun acc x => if fromMv a s x = true then putI acc x.f2 else acc) acc).length) ↔ (0 < acc.length ∨ l.any (fromMv a s) = true)
  | [], acc => by simp
  | x :: r, acc => by
    rw [List.foldl_cons, movesFrom_nonempty a s r, List.any_cons]
    have := putI_length acc x.f2
    by_cases h : fromMv a s x = true
    · rw [if_pos h, h]; simp; omega
    · rw [if_neg h]; simp [h]

/-! ### T_IsMachine -/
def okMv (n : Int) (x : Mv) : Bool := inB x.f0 0 (n - 1) && (inB x.f3 0 (n - 1) && inB x.f2 0 5)
/-- Two moves that may not stand together. -/
def clashMv (x y : Mv) : Bool := (x.f0 == y.f0) && (!(x.f1 == y.f1) || (x.f2 == y.f2))
def isMachine (n : Int) (e : List Bool) (l : List Mv) : Bool := inB n 1 6 && (decide ((e.length : Int) = n) && (decide (l.length ≤ 12) &&
  allFrom (fun i => okMv n (nt zMv l i) && allFrom (fun j => !clashMv (nt zMv l j) (nt zMv l i)) 0 i) 0 l.length))
theorem moveOf_lt {l : List Mv} {i : Nat} (hi : i < l.length) : moveOf l (nt zMv l i).f0 (nt zMv l i).f1 (nt zMv l i).f2 < (i : Int) ↔ ∃ j, j < i ∧ keyMv (nt zMv l i).f0 (nt zMv l i).f1 (nt zMv l i).f2 (nt zMv l j) = true := by
  unfold moveOf
  have hs : keyMv (nt zMv l i).f0 (nt zMv l i).f1 (nt zMv l i).f2 (nt zMv l i) = true := by simp [keyMv]
  cases e : l.findIdx? (keyMv (nt zMv l i).f0 (nt zMv l i).f1 (nt zMv l i).f2) with
  | none =>
    rw [List.findIdx?_eq_none_iff] at e
    have := e _ (nt_mem zMv l i hi)
    rw [hs] at this; cases this
  | some j =>
    obtain ⟨h1, h2, h3⟩ := List.findIdx?_eq_some_iff_getElem.1 e
    simp only [Option.elim]
    constructor
    · intro h; exact ⟨j, by omega, by rw [nt_lt _ _ _ h1]; exact h2⟩
    · rintro ⟨j', hj, hq⟩
      by_cases h : j < i
      · omega
      · have h4 := h3 j' (by omega)
        rw [nt_lt l zMv j' (by omega)] at hq
        rw [hq] at h4; exact absurd rfl h4
theorem good_iff (n : Int) (l : List Mv) :
    allFrom (fun i => okMv n (nt zMv l i) && (!decide (moveOf l (nt zMv l i).f0 (nt zMv l i).f1 (nt zMv l i).f2 < (i : Int)) && !decide (((movesFrom l (nt zMv l i).f0 (!(nt zMv l i).f1)).length : Int) > 0))) 0 l.length
    = allFrom (fun i => okMv n (nt zMv l i) && allFrom (fun j => !clashMv (nt zMv l j) (nt zMv l i)) 0 i) 0 l.length := by
  rw [Bool.eq_iff_iff, allFrom_iff, allFrom_iff]
  have hm : ∀ i, ((movesFrom l (nt zMv l i).f0 (!(nt zMv l i).f1)).length : Int) > 0 ↔ ∃ j, j < l.length ∧ fromMv (nt zMv l i).f0 (!(nt zMv l i).f1) (nt zMv l j) = true := by
    intro i
    have h := movesFrom_nonempty (nt zMv l i).f0 (!(nt zMv l i).f1) l []
    simp only [List.length_nil, Nat.lt_irrefl, false_or, List.any_eq_true] at h
    constructor
    · intro hp
      obtain ⟨x, hx, hq⟩ := h.1 (by unfold movesFrom at hp; omega)
      obtain ⟨j, hj, rfl⟩ := List.mem_iff_getElem.1 hx
      exact ⟨j, hj, by rw [nt_lt _ _ _ hj]; exact hq⟩
    · rintro ⟨j, hj, hq⟩
      have := h.2 ⟨_, nt_mem zMv l j hj, hq⟩
      unfold movesFrom; omega
  constructor
  · intro h i h0 hi
    have q := h i h0 hi
    simp only [Bool.and_eq_true, Bool.not_eq_true', decide_eq_false_iff_not] at q ⊢
    refine ⟨q.1, (allFrom_iff _ _ _).2 fun j _ hj => ?_⟩
    simp only [Bool.not_eq_true']
    cases hc : clashMv (nt zMv l j) (nt zMv l i) with
    | false => rfl
    | true =>
      exfalso
      simp only [clashMv, Bool.and_eq_true, Bool.or_eq_true, beq_iff_eq, Bool.not_eq_true', beq_eq_false_iff_ne] at hc
      by_cases hs : (nt zMv l j).f1 = (nt zMv l i).f1
      · rcases hc.2 with h2 | h2
        · exact h2 hs
        · exact q.2.1 ((moveOf_lt (by omega)).2 ⟨j, by omega, by rw [keyMv, hc.1, hs, h2]; simp⟩)
      · exact q.2.2 ((hm i).2 ⟨j, by omega, by
          simp only [fromMv, hc.1, beq_self_eq_true, Bool.true_and]
          cases hA : (nt zMv l j).f1 <;> cases hB : (nt zMv l i).f1 <;> simp_all⟩)
  · intro h i h0 hi
    have q := h i h0 hi
    simp only [Bool.and_eq_true, Bool.not_eq_true', decide_eq_false_iff_not] at q ⊢
    have q2 := (allFrom_iff _ _ _).1 q.2
    refine ⟨q.1, fun hlt => ?_, fun hp => ?_⟩
    · obtain ⟨j, hj, hk⟩ := (moveOf_lt (by omega)).1 hlt
      have := q2 j (by omega) (by omega)
      simp only [keyMv, Bool.and_eq_true, beq_iff_eq] at hk
      simp [clashMv, hk.1, hk.2.2] at this
    · obtain ⟨j, hj, hf⟩ := (hm i).1 hp
      simp only [fromMv, Bool.and_eq_true, beq_iff_eq] at hf
      rcases Nat.lt_trichotomy j i with hji | hji | hji
      · have := q2 j (by omega) (by omega)
        simp [clashMv, hf.1, hf.2] at this
      · subst hji; exact absurd hf.2 (by cases (nt zMv l j).f1 <;> simp)
      · have r := h j (by omega) (by omega)
        simp only [Bool.and_eq_true] at r
        have := (allFrom_iff _ _ _).1 r.2 i (by omega) (by omega)
        simp [clashMv, hf.1, hf.2] at this

/-! ### T_RunMachine -/
theorem moveOf_bound (l : List Mv) (a : Int) (s : Bool) (m : Int) : moveOf l a s m < 0 ∨ ∃ j : Nat, moveOf l a s m = j ∧ j < l.length ∧ keyMv a s m (nt zMv l j) = true := by
  rcases idx_elim_nonneg (keyMv a s m) l zMv with ⟨h, _⟩ | ⟨j, h1, h2, h3, _⟩
  · exact .inl h
  · exact .inr ⟨j, h1, h2, h3⟩
/-- The message of a word's number. -/
def msgOf (n : Int) : Int := if n < 0 then -(n + 1) else n
/-- A word run from state s on. -/
def runFrom (l : List Mv) : Int → List Int → Int
  | s, [] => s
  | s, n :: w => if moveOf l s (decide (n ≥ 0)) (msgOf n) < 0 then -1 else runFrom l (nt zMv l (moveOf l s (decide (n ≥ 0)) (msgOf n)).toNat).f3 w
def runMachine (n : Int) (e : List Bool) (l : List Mv) (w : List Int) : Int := if isMachine n e l && decide (w.length ≤ 20) then runFrom l 0 w else -1
theorem msg_spec {n : Int} (h : -9223372036854775808 ≤ n ∧ n ≤ 9223372036854775807) (hn : n < 0) : wrap64 (-(wrap64 (n + 1))) = msgOf n := by
  unfold msgOf; rw [if_pos hn, wrap_id (x := n + 1) (by omega) (by omega), wrap_id (by omega) (by omega)]
theorem msg_impl {n : Int} (h : -9223372036854775808 ≤ n ∧ n ≤ 9223372036854775807) (hn : n < 0) : wrap64 (wrap64 (-n) - 1) = msgOf n := by
  unfold msgOf; rw [if_pos hn]
  unfold wrap64; omega

/-! ### spec_l1In -/
theorem spec_l1In_eq (a b c : Int) : spec_l1In.f a b c = some (decide (b ≤ a ∧ a ≤ c)) := by
  unfold spec_l1In.f
  by_cases h : a ≥ b
  · rw [if_pos h]; simp [show b ≤ a from h]
  · rw [if_neg h, decide_eq_false (by omega)]

/-! ### spec_IsMachine -/
theorem spec_IsMachine_eq {n : Int} {e : List Bool} {l : List Mv} {k : Nat} (hk : 1000 < k) : spec_IsMachine.f k n e l = some (isMachine n e l) := by
  unfold spec_IsMachine.f isMachine
  rw [spec_l1In_eq, Option.bind_some]
  obtain ⟨k, rfl⟩ := succ_of hk
  simp only [spec_IsMachine.j0]
  cases h1 : inB n 1 6 with
  | false => rw [if_neg (by simpa [inB] using h1), if_pos trivial]; rfl
  | true =>
    have hN : 1 ≤ n ∧ n ≤ 6 := by simpa [inB] using h1
    rw [if_pos (by simpa [inB] using h1)]
    by_cases h2 : (e.length : Int) = n
    · rw [if_pos h2]
      by_cases h3 : l.length ≤ 12
      · rw [if_neg (by simp; omega), ← good_iff]
        have h := all_loop (g := fun k i => spec_IsMachine.l0 k (i : Int) n e l) (n := l.length) (B := 100) (ok := fun i => okMv n (nt zMv l i) && (!decide (moveOf l (nt zMv l i).f0 (nt zMv l i).f1 (nt zMv l i).f2 < (i : Int)) && !decide (((movesFrom l (nt zMv l i).f0 (!(nt zMv l i).f1)).length : Int) > 0))) (fin := true) (fun k => by
            simp only [spec_IsMachine.l0]; rw [if_neg (by omega)])
          (fun k i hi hk => by
            simp only [spec_IsMachine.l0]
            rw [if_pos (by omega), if_pos (by omega), rd_Mv, wrap_up (n := l.length) hi (by omega), wrap_id (x := n - 1) (by omega) (by omega)]
            simp only [spec_l1In_eq, Option.bind_some, spec_MoveOf_eq (n := n) (e := e) (l := l) (show l.length ≤ 1048576 by omega) (show l.length < k by omega), spec_MovesFrom_eq (n := n) (e := e) (l := l) (show l.length ≤ 1048576 by omega) (show 2 * l.length + 2 < k by omega)]
            have e1 : (decide (0 ≤ (nt zMv l i).f0 ∧ (nt zMv l i).f0 ≤ n - 1)) = inB (nt zMv l i).f0 0 (n - 1) := by simp [inB]
            have e2 : (decide (0 ≤ (nt zMv l i).f3 ∧ (nt zMv l i).f3 ≤ n - 1)) = inB (nt zMv l i).f3 0 (n - 1) := by simp [inB]
            have e3 : (decide (0 ≤ (nt zMv l i).f2 ∧ (nt zMv l i).f2 ≤ 5)) = inB (nt zMv l i).f2 0 5 := by simp [inB]
            simp only [e1, e2, e3]
            by_cases b1 : inB (nt zMv l i).f0 0 (n - 1) = true
            · by_cases b2 : inB (nt zMv l i).f3 0 (n - 1) = true
              · by_cases b3 : inB (nt zMv l i).f2 0 5 = true
                · have b4 : okMv n (nt zMv l i) = true := by simp [okMv, b1, b2, b3]
                  rw [if_pos b1, if_pos b2, if_pos b3]
                  by_cases q1 : moveOf l (nt zMv l i).f0 (nt zMv l i).f1 (nt zMv l i).f2 < (i : Int)
                  · rw [if_pos q1, if_neg (by simp [q1])]
                  · by_cases q2 : ((movesFrom l (nt zMv l i).f0 (!(nt zMv l i).f1)).length : Int) > 0
                    · rw [if_neg q1, if_pos q2, if_neg (by rw [decide_eq_true q2]; simp)]
                    · rw [if_neg q1, if_neg q2, if_pos (by rw [b4, decide_eq_false q1, decide_eq_false q2]; rfl)]
                · rw [if_pos b1, if_pos b2, if_neg b3, if_neg (by simp [okMv, b3])]
              · rw [if_pos b1, if_neg b2, if_neg (by simp [okMv, b2])]
            · rw [if_neg b1, if_neg (by simp [okMv, b1])]) l.length k 0 (by omega) (by omega)
        simpa [h2, h3] using h
      · rw [if_pos (by simp; omega)]; simp [h3]
    · rw [if_neg h2, if_pos trivial]; simp [h2]

/-! ### spec_RunMachine -/
theorem spec_RunMachine_l0 {n : Int} {e : List Bool} {l : List Mv} {w : List Int} (hl : l.length ≤ 1048576) (hw : w.length ≤ 1048576) (hx : ∀ x ∈ w, -9223372036854775808 ≤ x ∧ x ≤ 9223372036854775807) :
    ∀ (d k i : Nat) (s : Int), i + d = w.length → l.length + d + 1 < k → spec_RunMachine.l0 k w s (i : Int) n e l = some (runFrom l s (w.drop i)) := by
  intro d
  induction d with
  | zero =>
    intro k i s h hk
    obtain ⟨k, rfl⟩ := succ_of hk
    obtain rfl : i = w.length := by omega
    simp only [spec_RunMachine.l0]; rw [if_neg (by omega), drop_end]; rfl
  | succ d ih =>
    intro k i s h hk
    obtain ⟨k, rfl⟩ := succ_of hk
    have hb := hx _ (nt_mem 0 w i (by omega))
    simp only [spec_RunMachine.l0]
    rw [if_pos (by omega), if_pos (by omega), rd_cast, drop_step w 0 i (by omega), runFrom, wrap_up (n := w.length) (by omega) (by omega)]
    by_cases q : nt 0 w i ≥ 0
    · rw [if_pos q, spec_MoveOf_eq (by omega) (by omega), Option.bind_some, show msgOf (nt 0 w i) = nt 0 w i by unfold msgOf; rw [if_neg (by omega)], decide_eq_true q]
      rcases moveOf_bound l s true (nt 0 w i) with hm | ⟨j, hj, hlt, _⟩
      · rw [if_pos hm, if_pos hm]
      · rw [if_neg (by omega), if_pos (by omega), if_pos (by omega), if_neg (by omega), hj, rd_Mv, ih k (i + 1) _ (by omega) (by omega), toNat_cast]
    · rw [if_neg q, msg_spec hb (by omega), spec_MoveOf_eq (by omega) (by omega), Option.bind_some, decide_eq_false q]
      rcases moveOf_bound l s false (msgOf (nt 0 w i)) with hm | ⟨j, hj, hlt, _⟩
      · rw [if_pos hm, if_pos hm]
      · rw [if_neg (by omega), if_pos (by omega), if_pos (by omega), if_neg (by omega), hj, rd_Mv, ih k (i + 1) _ (by omega) (by omega), toNat_cast]
theorem spec_RunMachine_eq {n : Int} {e : List Bool} {l : List Mv} {w : List Int} {k : Nat} (hl : l.length ≤ 1048576) (hw : w.length ≤ 1048576) (hx : ∀ x ∈ w, -9223372036854775808 ≤ x ∧ x ≤ 9223372036854775807) (hk : 2100000 < k) : spec_RunMachine.f k n e l w = some (runMachine n e l w) := by
  unfold spec_RunMachine.f runMachine
  rw [spec_IsMachine_eq (by omega), Option.bind_some]
  obtain ⟨k, rfl⟩ : ∃ k', k = k' + 1 := ⟨k - 1, by omega⟩
  have h0 := spec_RunMachine_l0 (n := n) (e := e) (l := l) hl hw hx w.length k 0 0 (by omega) (by omega)
  rw [List.drop_zero] at h0
  simp only [spec_RunMachine.j0]
  cases h : isMachine n e l with
  | false => simp
  | true =>
    by_cases q : w.length ≤ 20
    · have q2 : ¬ (w.length : Int) > 20 := by omega
      simp [q, q2, show ¬ 20 < (w.length : Int) by omega]; exact h0
    · simp [q, show 20 < (w.length : Int) by omega]

/-! ### impl_InRange -/
theorem impl_InRange_eq (a b c : Int) : impl_InRange.f a b c = some (decide (b ≤ a ∧ a ≤ c)) := by
  unfold impl_InRange.f
  by_cases h : b ≤ a
  · rw [if_pos h]; simp [h]
  · rw [if_neg h, decide_eq_false (by omega)]

/-! ### impl_IsMachine -/
theorem impl_IsMachine_l1 {n : Int} {e : List Bool} {l : List Mv} {i : Nat} (hi : i < l.length) (hl : l.length ≤ 12) {k : Nat} (hk : i < k) : impl_IsMachine.l1 k l (l.length : Int) (i : Int) (l.take i) ((l.take i).length : Int) 0 n e l (nt zMv l i).f0 (nt zMv l i).f1 (nt zMv l i).f2 (nt zMv l i).f3
    = if allFrom (fun j => !clashMv (nt zMv l j) (nt zMv l i)) 0 i = true then impl_IsMachine.l0 (k - i - 1) l (l.length : Int) ((i + 1 : Nat) : Int) n e l else some false := by
  have ht : (l.take i).length = i := by rw [List.length_take]; omega
  have hnt : ∀ j, j < i → nt zMv (l.take i) j = nt zMv l j := fun j hj => by rw [nt_lt _ _ _ (by omega), nt_lt _ _ _ (by omega), List.getElem_take]
  exact inner_loop (g := fun k j => impl_IsMachine.l1 k l (l.length : Int) (i : Int) (l.take i) ((l.take i).length : Int) (j : Int) n e l (nt zMv l i).f0 (nt zMv l i).f1 (nt zMv l i).f2 (nt zMv l i).f3) (n := i) (cont := fun k => impl_IsMachine.l0 k l (l.length : Int) ((i + 1 : Nat) : Int) n e l) (fun k => by
      simp only [impl_IsMachine.l1]; rw [if_neg (by omega), wrap_up (n := l.length) hi (by omega)])
    (fun k j hj => by
      simp only [impl_IsMachine.l1]
      rw [if_pos (by omega), if_pos (by omega), if_pos (by omega), rd_Mv, hnt j hj, wrap_up (n := i) hj (by omega)]
      by_cases h1 : (nt zMv l j).f0 = (nt zMv l i).f0
      · rw [if_pos h1]
        cases h2 : ((nt zMv l j).f1 == (nt zMv l i).f1) with
        | false => rw [if_pos (by simp only [bne, h2, Bool.not_false]), if_neg (by simp [clashMv, h1, h2])]
        | true =>
          rw [if_neg (by simp only [bne, h2, Bool.not_true]; simp)]
          by_cases h3 : (nt zMv l j).f2 = (nt zMv l i).f2
          · rw [if_pos h3, if_neg (by simp [clashMv, h1, h3])]
          · rw [if_neg h3, if_pos (by simp [clashMv, h2, h3])]
      · rw [if_neg h1, if_pos (by simp [clashMv, h1])]) i k 0 (by omega) (by omega)
theorem impl_IsMachine_l0 {n : Int} {e : List Bool} {l : List Mv} (hN : 1 ≤ n ∧ n ≤ 6) (hl : l.length ≤ 12) : ∀ (d k i : Nat), i + d = l.length → 20 * d + 20 < k → impl_IsMachine.l0 k l (l.length : Int) (i : Int) n e l
    = some (allFrom (fun i => okMv n (nt zMv l i) && allFrom (fun j => !clashMv (nt zMv l j) (nt zMv l i)) 0 i) i d) := by
  intro d
  induction d with
  | zero =>
    intro k i h hk
    obtain ⟨k, rfl⟩ := succ_of hk
    simp only [impl_IsMachine.l0]; rw [if_neg (by omega)]; rfl
  | succ d ih =>
    intro k i h hk
    obtain ⟨k, rfl⟩ : ∃ k', k = k' + 2 := ⟨k - 2, by omega⟩
    simp only [impl_IsMachine.l0]
    rw [if_pos (by omega), if_pos (by omega), if_pos (by omega), rd_Mv, wrap_id (x := n - 1) (by omega) (by omega)]
    simp only [impl_InRange_eq, Option.bind_some]
    have e1 : (decide (0 ≤ (nt zMv l i).f0 ∧ (nt zMv l i).f0 ≤ n - 1)) = inB (nt zMv l i).f0 0 (n - 1) := by simp [inB]
    have e2 : (decide (0 ≤ (nt zMv l i).f3 ∧ (nt zMv l i).f3 ≤ n - 1)) = inB (nt zMv l i).f3 0 (n - 1) := by simp [inB]
    have e3 : (decide (0 ≤ (nt zMv l i).f2 ∧ (nt zMv l i).f2 ≤ 5)) = inB (nt zMv l i).f2 0 5 := by simp [inB]
    simp only [e1, e2, e3, allFrom, okMv, impl_IsMachine.j2, Option.bind_some, toNat_cast]
    cases inB (nt zMv l i).f0 0 (n - 1) <;> cases inB (nt zMv l i).f3 0 (n - 1) <;> cases inB (nt zMv l i).f2 0 5 <;> simp only [Bool.false_eq_true, if_false, if_true, Bool.false_and, Bool.true_and, Bool.and_false, Bool.not_true, Bool.not_false]
    rw [if_pos (by omega), if_pos (by omega), impl_IsMachine_l1 (by omega) hl (by omega)]
    by_cases hc : allFrom (fun j => !clashMv (nt zMv l j) (nt zMv l i)) 0 i = true
    · rw [if_pos hc, hc, ih _ (i + 1) (by omega) (by omega)]; simp [okMv]
    · rw [if_neg hc]; simp only [Bool.not_eq_true] at hc; rw [hc]; rfl
theorem impl_IsMachine_eq {n : Int} {e : List Bool} {l : List Mv} {k : Nat} (hk : 1000 < k) : impl_IsMachine.f k n e l = some (isMachine n e l) := by
  unfold impl_IsMachine.f isMachine
  rw [impl_InRange_eq, Option.bind_some]
  obtain ⟨k, rfl⟩ := succ_of hk
  simp only [impl_IsMachine.j0]
  cases h1 : inB n 1 6 with
  | false => rw [if_neg (by simpa [inB] using h1), if_pos trivial]; rfl
  | true =>
    have hN : 1 ≤ n ∧ n ≤ 6 := by simpa [inB] using h1
    rw [if_pos (by simpa [inB] using h1)]
    by_cases h2 : (e.length : Int) = n
    · rw [if_pos h2]
      by_cases h3 : l.length ≤ 12
      · rw [if_neg (by simp; omega)]
        have h := impl_IsMachine_l0 (e := e) hN h3 l.length k 0 (by omega) (by omega)
        simpa [h2, h3] using h
      · rw [if_pos (by simp; omega)]; simp [h3]
    · rw [if_neg h2, if_pos trivial]; simp [h2]

/-! ### impl_RunMachine -/
theorem impl_RunMachine_l0 {n : Int} {e : List Bool} {l : List Mv} {w : List Int} (hl : l.length ≤ 1048576) (hw : w.length ≤ 1048576) (hx : ∀ x ∈ w, -9223372036854775808 ≤ x ∧ x ≤ 9223372036854775807) :
    ∀ (d k i : Nat) (s : Int), i + d = w.length → l.length + d + 1 < k → impl_RunMachine.l0 k s w (w.length : Int) (i : Int) n e l = some (runFrom l s (w.drop i)) := by
  intro d
  induction d with
  | zero =>
    intro k i s h hk
    obtain ⟨k, rfl⟩ := succ_of hk
    obtain rfl : i = w.length := by omega
    simp only [impl_RunMachine.l0]; rw [if_neg (by omega), drop_end]; rfl
  | succ d ih =>
    intro k i s h hk
    obtain ⟨k, rfl⟩ := succ_of hk
    have hb := hx _ (nt_mem 0 w i (by omega))
    simp only [impl_RunMachine.l0]
    rw [if_pos (by omega), if_pos (by omega), if_pos (by omega), rd_cast, drop_step w 0 i (by omega), runFrom, wrap_up (n := w.length) (by omega) (by omega)]
    by_cases q : nt 0 w i < 0
    · rw [if_pos q, msg_impl hb q, impl_MoveOf_eq, Option.bind_some]
      rcases moveOf_bound l s (decide (nt 0 w i ≥ 0)) (msgOf (nt 0 w i)) with hm | ⟨j, hj, hlt, _⟩
      · rw [if_pos hm, if_pos hm]
      · rw [if_neg (by omega), if_pos (by omega), if_pos (by omega), if_neg (by omega), hj, rd_Mv, ih k (i + 1) _ (by omega) (by omega), toNat_cast]
    · rw [if_neg q, impl_MoveOf_eq, Option.bind_some, show msgOf (nt 0 w i) = nt 0 w i by unfold msgOf; rw [if_neg q]]
      rcases moveOf_bound l s (decide (nt 0 w i ≥ 0)) (nt 0 w i) with hm | ⟨j, hj, hlt, _⟩
      · rw [if_pos hm, if_pos hm]
      · rw [if_neg (by omega), if_pos (by omega), if_pos (by omega), if_neg (by omega), hj, rd_Mv, ih k (i + 1) _ (by omega) (by omega), toNat_cast]
theorem impl_RunMachine_eq {n : Int} {e : List Bool} {l : List Mv} {w : List Int} {k : Nat} (hl : l.length ≤ 1048576) (hw : w.length ≤ 1048576) (hx : ∀ x ∈ w, -9223372036854775808 ≤ x ∧ x ≤ 9223372036854775807) (hk : 2100000 < k) : impl_RunMachine.f k n e l w = some (runMachine n e l w) := by
  unfold impl_RunMachine.f runMachine
  rw [impl_IsMachine_eq (by omega), Option.bind_some]
  obtain ⟨k, rfl⟩ : ∃ k', k = k' + 1 := ⟨k - 1, by omega⟩
  have h0 := impl_RunMachine_l0 (n := n) (e := e) (l := l) hl hw hx w.length k 0 0 (by omega) (by omega)
  rw [List.drop_zero] at h0
  simp only [impl_RunMachine.j0]
  cases h : isMachine n e l with
  | false => simp
  | true =>
    by_cases q : w.length ≤ 20
    · have q2 : ¬ (w.length : Int) > 20 := by omega
      simp [q, q2, show ¬ 20 < (w.length : Int) by omega]; exact h0
    · simp [q, show 20 < (w.length : Int) by omega]

end FnExactRunMachineAid
open FnExactRunMachineAid

theorem FnExactRunMachine : laws_FnExactRunMachine.Pure := by
  intro a e m w ha he _ hm _ hwl hw
  obtain ⟨k, hk⟩ : ∃ k, k = 2100000 + 100 := ⟨_, rfl⟩
  refine ⟨k, ?_⟩
  unfold laws_FnExactRunMachine.f
  by_cases ht : (w.length : Int) > 1048576
  · rw [if_pos ht]
  · rw [if_neg ht, laws_szMachine_eq (by omega) (by omega) he hm, Option.bind_some]
    by_cases hb : (1048576 : Int) < e.length + m.length
    · rw [if_pos hb, if_pos (by omega)]
    · rw [if_neg hb, if_neg (by omega)]
      obtain ⟨M, hM⟩ : ∃ M, M = m.map convMv := ⟨_, rfl⟩
      have lM : M.length = m.length := by rw [hM]; exact List.length_map ..
      have f1 : laws_toMachine.f k a e m = some (a, e, M) := by rw [laws_toMachine_eq (by omega) (by omega) (by omega), hM]
      have f5 : laws_eqMachine.f k a e M a e M = some true := laws_eqMachine_self (by omega) (by omega) (by omega)
      have f9 : laws_toIntS.f k w = some w := laws_toIntS_eq (by omega) (by omega)
      have f10 : laws_eqIntS.f k w w = some true := laws_eqIntS_self (by omega) (by omega)
      have f3 : spec_RunMachine.f k a e M w = some (runMachine a e M w) := spec_RunMachine_eq (by omega) (by omega) (fun x hx => wf_int (hw x hx)) (by omega)
      have f4 : impl_RunMachine.f k a e M w = some (runMachine a e M w) := impl_RunMachine_eq (by omega) (by omega) (fun x hx => wf_int (hw x hx)) (by omega)
      simp only [f1, f3, f4, f5, f9, f10, Option.bind_some, Bool.false_eq_true, if_true, if_false, ↓reduceIte, bne_self_eq_false, Bool.not_true, Bool.not_false, Nat.le_add_right, Nat.le_refl]

end Go.Proofs.Ytfnbfconhpppfaa.Pure
