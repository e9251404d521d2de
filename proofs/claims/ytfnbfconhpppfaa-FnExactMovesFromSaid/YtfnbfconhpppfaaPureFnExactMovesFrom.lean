/- MovesFrom of the program and of the reference agree on every machine, state and direction, as a statement over lists alone; the bounds are those of memory. -/
import Derived.Test.YtfnbfconhpppfaaPFnExactMovesFromx6
import Derived.Test.YtfnbfconhpppfaaGb
import Derived.Test.YtfnbfconhpppfaaGr
import Derived.Test.YtfnbfconhpppfaaGm
namespace Go.Proofs.Ytfnbfconhpppfaa.Pure
open Go.RowKit Go.Proofs.Ytfnbfconhpppfaa.PFnExactMovesFrom Go.Proofs.YtfnbfconhpppfaaW.PrintWords Go.Proofs.YtfnbfconhpppfaaW.PrintLast Go.Proofs.Ytfnbfconhpppfaa.Gb Go.Proofs.Ytfnbfconhpppfaa.Gr Go.Proofs.Ytfnbfconhpppfaa.Gm Go.Proofs.Ytfnbfconhpppfaa
set_option linter.unusedSimpArgs false
set_option linter.unusedVariables false
namespace FnExactMovesFromAid

/-! ### T_Move -/
abbrev Mv := S80
abbrev LMv := S102
abbrev zMv : Mv := z80
abbrev zLMv : LMv := z102
theorem rd_Mv (l : List Mv) (i : Nat) : rd_T80 l (i : Int) = nt zMv l i := by simp [rd_T80, nt]
theorem rd_LMv (l : List LMv) (i : Nat) : rd_T102 l (i : Int) = nt zLMv l i := by simp [rd_T102, nt]
def convMv (x : LMv) : Mv := ⟨x.f0, x.f1, x.f2, x.f3⟩
def sameMv (x y : Mv) : Bool := (x.f0 == y.f0) && ((x.f1 == y.f1) && ((x.f2 == y.f2) && (x.f3 == y.f3)))
theorem sameMv_self (x : Mv) : sameMv x x = true := by simp [sameMv]
def eqBs (a b : List Bool) : Bool := decide (a.length = b.length) && allFrom (fun i => nt false a i == nt false b i) 0 a.length
def eqMvs (a b : List Mv) : Bool := decide (a.length = b.length) && allFrom (fun i => sameMv (nt zMv a i) (nt zMv b i)) 0 a.length
theorem rdb_cast (xs : List Bool) (i : Nat) : rdOf false xs (i : Int) = nt false xs i := rdOf_cast false xs i

/-! ### laws_szMachine -/
theorem laws_szMachine_eq {x : Int} {e : List Bool} {m : List LMv} {a : Int} (h0 : 0 ≤ a) (h1 : a ≤ 1048576) (he : e.length ≤ 9223372036854775807) (hm : m.length ≤ 9223372036854775807) : laws_szMachine.f x e m a = some (if a < e.length + m.length then -1 else a - (e.length + m.length)) := by
  unfold laws_szMachine.f laws_szBoolS.f
  rw [wrap_id (by omega) (by omega)]
  by_cases h : a - e.length < (0 : Int)
  · rw [if_pos h, Option.bind_some, if_pos (by omega), if_pos (by omega)]
  · rw [if_neg h, Option.bind_some, if_neg h]
    unfold laws_szMoveS.f
    rw [wrap_id (by omega) (by omega)]
    by_cases h2 : a - e.length - m.length < (0 : Int)
    · rw [if_pos h2, Option.bind_some, if_pos (by omega), if_pos (by omega)]
    · rw [if_neg h2, Option.bind_some, if_neg h2, if_neg (by omega)]; congr 1; omega

/-! ### laws_toMachine -/
theorem laws_toBoolS_eq {l : List Bool} {k : Nat} (hl : l.length ≤ 1048576) (hk : l.length < k) : laws_toBoolS.f k l = some l := by
  unfold laws_toBoolS.f
  rw [if_pos (by omega), toNat_cast, if_pos (by omega)]
  have h := map_loop (g := fun k acc i => laws_toBoolS.l0 k l acc (i : Int)) (l := l) (z := false) (zb := false) (f := id) (B := 0) (fun k acc ha => by
      simp only [laws_toBoolS.l0]; rw [if_neg (by omega)])
    (fun k i acc hi _ ha => by
      simp only [laws_toBoolS.l0]
      rw [if_pos (by omega), if_pos (by omega), rdb_cast, if_pos (by omega), wrap_up (n := l.length) hi (by omega), toNat_cast]; rfl) l.length k 0 (by omega) (by omega)
  simpa using h
theorem laws_toMoveS_eq {l : List LMv} {k : Nat} (hl : l.length ≤ 1048576) (hk : l.length < k) : laws_toMoveS.f k l = some (l.map convMv) := by
  unfold laws_toMoveS.f
  rw [if_pos (by omega), toNat_cast, if_pos (by omega)]
  have h := map_loop (g := fun k acc i => laws_toMoveS.l0 k l acc (i : Int)) (l := l) (z := zLMv) (zb := zMv) (f := convMv) (B := 0) (fun k acc ha => by
      simp only [laws_toMoveS.l0]; rw [if_neg (by omega)])
    (fun k i acc hi _ ha => by
      simp only [laws_toMoveS.l0]
      rw [if_pos (by omega), if_pos (by omega), rd_LMv]
      simp only [laws_toMove.f, Option.bind_some]
      rw [if_pos (by omega), wrap_up (n := l.length) hi (by omega), toNat_cast]; rfl) l.length k 0 (by omega) (by omega)
  simpa using h
theorem laws_toMachine_eq {x : Int} {e : List Bool} {m : List LMv} {k : Nat} (he : e.length ≤ 1048576) (hm : m.length ≤ 1048576) (hk : 1048577 < k) : laws_toMachine.f k x e m = some (x, e, m.map convMv) := by
  unfold laws_toMachine.f
  rw [laws_toBoolS_eq he (by omega), Option.bind_some, laws_toMoveS_eq hm (by omega), Option.bind_some]

/-! ### laws_eqMachine -/
theorem laws_eqBoolS_self {l : List Bool} {k : Nat} (hl : l.length ≤ 9223372036854775807) (hk : l.length < k) : laws_eqBoolS.f k l l = some true := by
  unfold laws_eqBoolS.f
  rw [if_pos rfl]
  exact pass_loop (g := fun k i => laws_eqBoolS.l0 k l l (i : Int)) (n := l.length) (B := 0) (fun k => by
      simp only [laws_eqBoolS.l0]; rw [if_neg (by omega)])
    (fun k i hi hk => by
      simp only [laws_eqBoolS.l0]
      rw [if_pos (by omega), if_pos (by omega), if_pos (by omega), wrap_up (n := l.length) hi hl, if_neg (by simp)]) l.length k 0 (by omega) (by omega)
theorem laws_eqMoveS_self {l : List Mv} {k : Nat} (hl : l.length ≤ 9223372036854775807) (hk : l.length < k) : laws_eqMoveS.f k l l = some true := by
  unfold laws_eqMoveS.f
  rw [if_pos rfl]
  exact pass_loop (g := fun k i => laws_eqMoveS.l0 k l l (i : Int)) (n := l.length) (B := 0) (fun k => by
      simp only [laws_eqMoveS.l0]; rw [if_neg (by omega)])
    (fun k i hi hk => by
      simp only [laws_eqMoveS.l0]
      rw [if_pos (by omega), if_pos (by omega), if_pos (by omega), wrap_up (n := l.length) hi hl]
      simp only [laws_eqMove.f, if_true, bne_self_eq_false, Bool.false_eq_true, if_false, Option.bind_some]) l.length k 0 (by omega) (by omega)
theorem laws_eqMachine_self {x : Int} {e : List Bool} {m : List Mv} {k : Nat} (he : e.length ≤ 1048576) (hm : m.length ≤ 1048576) (hk : 1048577 < k) : laws_eqMachine.f k x e m x e m = some true := by
  unfold laws_eqMachine.f
  rw [if_pos rfl, laws_eqBoolS_self (by omega) (by omega), Option.bind_some, if_pos rfl, laws_eqMoveS_self (by omega) (by omega), Option.bind_some, if_pos rfl]

/-! ### laws_markMachine -/
def markBs : Int → List Bool → List Bool
  | _, [] => []
  | a, _ :: r => (Int.tmod a 3 == 0) :: markBs (a + 1) r
def markMvs : Int → List Mv → List Mv
  | _, [] => []
  | a, _ :: r => (⟨a, (Int.tmod (a + 1) 3 == 0), a + 2, a + 3⟩ : Mv) :: markMvs (a + 4) r
theorem markBs_length (a : Int) (l : List Bool) : (markBs a l).length = l.length := by
  induction l generalizing a with
  | nil => rfl
  | cons x r ih => simp [markBs, ih]
theorem markMvs_length (a : Int) (l : List Mv) : (markMvs a l).length = l.length := by
  induction l generalizing a with
  | nil => rfl
  | cons x r ih => simp [markMvs, ih]
theorem laws_markBoolS_l0 : ∀ (rest done : List Bool) (k : Nat) (a : Int), done.length + rest.length ≤ 4611686018427387904 → 0 ≤ a → a + rest.length ≤ 4611686018427387903 → rest.length < k →
    laws_markBoolS.l0 k (done ++ rest) a (done.length : Int) = some (a + rest.length, done ++ markBs a rest) := by
  intro rest
  induction rest with
  | nil =>
    intro done k a hl h0 h1 hk
    obtain ⟨k, rfl⟩ := succ_of hk
    simp only [laws_markBoolS.l0, List.append_nil]; rw [if_neg (by omega)]; simp [markBs]
  | cons x r ih =>
    intro done k a hl h0 h1 hk
    obtain ⟨k, rfl⟩ := succ_of hk
    simp only [List.length_cons] at hl h1 hk ⊢
    simp only [laws_markBoolS.l0]
    rw [if_pos (by rw [len_at]; omega), if_pos (by omega), wrap_id (x := a + 1) (by omega) (by omega), toNat_cast, set_at, wrap_up (n := done.length + 1) (by omega) (by omega), ← len_snoc done (Int.tmod a 3 == 0), ih _ k _ (by rw [len_snoc]; omega) (by omega) (by omega) (by omega)]
    simp only [markBs, List.append_assoc, List.singleton_append]
    congr 2; omega
theorem laws_markMoveS_l0 : ∀ (rest done : List Mv) (k : Nat) (a : Int), done.length + rest.length ≤ 1048576 → 0 ≤ a → a + 4 * rest.length ≤ 4611686018427387903 → rest.length < k →
    laws_markMoveS.l0 k (done ++ rest) a (done.length : Int) = some (a + 4 * rest.length, done ++ markMvs a rest) := by
  intro rest
  induction rest with
  | nil =>
    intro done k a hl h0 h1 hk
    obtain ⟨k, rfl⟩ := succ_of hk
    simp only [laws_markMoveS.l0, List.append_nil]; rw [if_neg (by omega)]; simp [markMvs]
  | cons x r ih =>
    intro done k a hl h0 h1 hk
    obtain ⟨k, rfl⟩ := succ_of hk
    simp only [List.length_cons] at hl h1 hk ⊢
    simp only [laws_markMoveS.l0]
    rw [if_pos (by rw [len_at]; omega), if_pos (by omega)]
    simp only [Option.bind_some, toNat_cast, rd_Mv, nt_at, set_at, nt_mid zMv done r _ done.length rfl, set_mid done r _ _ done.length rfl]
    rw [wrap_id (x := a + 1) (by omega) (by omega), wrap_id (x := a + 1 + 1) (by omega) (by omega), wrap_id (x := a + 1 + 1 + 1) (by omega) (by omega), wrap_id (x := a + 1 + 1 + 1 + 1) (by omega) (by omega), wrap_up (n := done.length + 1) (by omega) (by omega)]
    have e1 : a + 1 + 1 = a + 2 := by omega
    have e2 : a + 2 + 1 = a + 3 := by omega
    have e3 : a + 3 + 1 = a + 4 := by omega
    rw [e1, e2, e3, ← len_snoc done (⟨a, (Int.tmod (a + 1) 3 == 0), a + 2, a + 3⟩ : Mv), ih _ k _ (by rw [len_snoc]; omega) (by omega) (by omega) (by omega)]
    simp only [markMvs, List.append_assoc, List.singleton_append]
    congr 2; omega
theorem laws_markMachine_eq {n : Int} {e : List Bool} {l : List Mv} {a : Int} {k : Nat} (he : e.length ≤ 1048576) (hl : l.length ≤ 1048576) (h0 : 0 ≤ a) (h1 : a ≤ 1048576) (hk : 1048577 < k) : laws_markMachine.f k n e l a = some (a + e.length + 4 * l.length, markBs a e, markMvs (a + e.length) l) := by
  unfold laws_markMachine.f laws_markBoolS.f laws_markMoveS.f
  have f1 := laws_markBoolS_l0 e [] k a (by simp; omega) h0 (by omega) (by omega)
  have f2 := laws_markMoveS_l0 l [] k (a + e.length) (by simp; omega) (by omega) (by omega) (by omega)
  simp only [List.nil_append, List.length_nil, Int.ofNat_zero, Int.natCast_zero] at f1 f2
  rw [show laws_markBoolS.l0 k e a 0 = _ from f1, Option.bind_some, show laws_markMoveS.l0 k l (a + e.length) 0 = _ from f2, Option.bind_some]

/-! ### laws_eqIntS -/
theorem laws_eqIntS_l0 (a b : List Int) (hl : a.length ≤ 9223372036854775807) (he : b.length = a.length) : ∀ (d k i : Nat), i + d = a.length → d < k → laws_eqIntS.l0 k a b (i : Int) = some (decide (a.drop i = b.drop i)) := by
  intro d
  induction d with
  | zero =>
    intro k i h hk
    obtain ⟨k, rfl⟩ := succ_of hk
    obtain rfl : i = a.length := by omega
    simp only [laws_eqIntS.l0]; rw [if_neg (by omega), drop_end, ← he, drop_end, decide_eq_true rfl]
  | succ d ih =>
    intro k i h hk
    obtain ⟨k, rfl⟩ := succ_of hk
    simp only [laws_eqIntS.l0]
    rw [if_pos (by omega), if_pos (by omega), if_pos (by omega), wrap_up (n := a.length) (by omega) hl, rd_cast, rd_cast, drop_step a 0 i (by omega), drop_step b 0 i (by omega), ih k (i + 1) (by omega) (by omega)]
    by_cases e : nt 0 a i = nt 0 b i
    · rw [if_pos e, e]; simp
    · rw [if_neg e]; simp [e]
theorem laws_eqIntS_eq {a b : List Int} {k : Nat} (hl : a.length ≤ 9223372036854775807) (hk : a.length < k) : laws_eqIntS.f k a b = some (decide (a = b)) := by
  unfold laws_eqIntS.f
  by_cases e : a.length = b.length
  · rw [if_pos (by omega)]
    exact laws_eqIntS_l0 a b hl e.symm a.length k 0 (by omega) hk
  · rw [if_neg (by omega), decide_eq_false (fun h => e (by rw [h]))]
theorem laws_eqIntS_self {a : List Int} {k : Nat} (hl : a.length ≤ 9223372036854775807) (hk : a.length < k) : laws_eqIntS.f k a a = some true := by
  rw [laws_eqIntS_eq hl hk, decide_eq_true rfl]

/-! ### laws_markIntS -/
theorem laws_markIntS_l0 (l : List Int) (hl : l.length ≤ 4611686018427387904) (a : Int) (h0 : 0 ≤ a) (h1 : a ≤ 4611686018427387903) : ∀ (d k i : Nat), i + d = l.length → d < k → laws_markIntS.l0 k (seqFrom a i ++ l.drop i) (a + i) (i : Int) = some (a + l.length, seqFrom a l.length) := by
  intro d
  induction d with
  | zero =>
    intro k i h hk
    obtain ⟨k, rfl⟩ := succ_of hk
    obtain rfl : i = l.length := by omega
    simp only [laws_markIntS.l0]; rw [drop_end, List.append_nil, seqFrom_length, if_neg (by omega)]
  | succ d ih =>
    intro k i h hk
    obtain ⟨k, rfl⟩ := succ_of hk
    simp only [laws_markIntS.l0]
    rw [if_pos (by rw [List.length_append, List.length_drop, seqFrom_length]; omega), if_pos (by omega), wrap_up (n := l.length) (by omega) (by omega), toNat_cast, set_mark _ _ _ _ (seqFrom_length a i) (by omega), ← seqFrom_snoc, wrap_id (by omega) (by omega), Int.add_assoc]
    exact ih k (i + 1) (by omega) (by omega)
theorem laws_markIntS_eq {l : List Int} {a : Int} {k : Nat} (hl : l.length ≤ 4611686018427387904) (h0 : 0 ≤ a) (h1 : a ≤ 4611686018427387903) (hk : l.length < k) : laws_markIntS.f k l a = some (a + l.length, seqFrom a l.length) := by
  unfold laws_markIntS.f
  have h := laws_markIntS_l0 l hl a h0 h1 l.length k 0 (by omega) hk
  simp only [seqFrom, List.drop_zero, List.nil_append, Int.natCast_zero, Int.add_zero] at h
  exact h

/-! ### laws_heldIntS -/
theorem laws_heldIntS_l0 (n : Nat) (hn : n ≤ 4611686018427387904) (a : Int) (h0 : 0 ≤ a) (h1 : a ≤ 4611686018427387903) : ∀ (d k i : Nat), i + d = n → d < k → laws_heldIntS.l0 k (seqFrom a n) (a + i) (i : Int) = some (a + n) := by
  intro d
  induction d with
  | zero =>
    intro k i h hk
    obtain ⟨k, rfl⟩ := succ_of hk
    obtain rfl : i = n := by omega
    simp only [laws_heldIntS.l0]; rw [seqFrom_length, if_neg (by omega)]
  | succ d ih =>
    intro k i h hk
    obtain ⟨k, rfl⟩ := succ_of hk
    simp only [laws_heldIntS.l0]
    rw [seqFrom_length, if_pos (by omega), if_pos (by omega), rd_cast, nt_seq a n i (by omega), if_pos rfl, wrap_up (n := n) (by omega) (by omega), wrap_id (by omega) (by omega), Int.add_assoc]
    exact ih k (i + 1) (by omega) (by omega)
theorem laws_heldIntS_eq {n : Nat} {a : Int} {k : Nat} (hn : n ≤ 4611686018427387904) (h0 : 0 ≤ a) (h1 : a ≤ 4611686018427387903) (hk : n < k) : laws_heldIntS.f k (seqFrom a n) a = some (a + n) := by
  unfold laws_heldIntS.f
  have h := laws_heldIntS_l0 n hn a h0 h1 n k 0 (by omega) hk
  simp only [Int.natCast_zero, Int.add_zero] at h
  exact h

/-! ### T_put -/
/-- (putI: a number put into an ascending list: the library text Gm.) -/
theorem putI_nil (x : Int) : putI [] x = [x] := rfl

/-! ### spec_l4Put -/
theorem spec_l4Put_l0 (x : Int) : ∀ (rest done : List Int) (k : Nat), done.length + rest.length ≤ 2097152 → rest.length < k → spec_l4Put.l0 k (done ++ rest) x (done.length : Int) = some (done ++ putI rest x) := by
  intro rest
  induction rest with
  | nil =>
    intro done k hl hk
    obtain ⟨k, rfl⟩ := succ_of hk
    simp only [List.length_nil, Nat.add_zero] at hl
    simp only [spec_l4Put.l0, List.append_nil, Option.bind_some, toNat_cast, List.take_length, List.drop_length, List.nil_append, List.length_nil, List.length_singleton, List.length_append, Nat.zero_add, Nat.add_zero]
    rw [if_neg (by omega), if_pos (by omega), if_pos (by omega), if_pos (by omega), if_pos (by omega), if_pos (by omega)]
    rfl
  | cons y r ih =>
    intro done k hl hk
    obtain ⟨k, rfl⟩ := succ_of hk
    simp only [List.length_cons] at hl hk
    have ht : (done ++ y :: r).take done.length = done := by simp
    have hd : (done ++ y :: r).drop done.length = y :: r := by simp
    have hn : (done ++ y :: r).length = done.length + r.length + 1 := len_at done r y
    simp only [spec_l4Put.l0, Option.bind_some, toNat_cast, ht, hd, List.nil_append, List.length_nil, Nat.zero_add]
    rw [if_pos (by omega), if_pos (by omega), rd_cast, nt_at]
    simp only [putI]
    by_cases h1 : y < x
    · rw [if_pos h1, if_pos h1, wrap_up (n := done.length + 1) (by omega) (by omega)]
      have e := ih (done ++ [y]) k (by rw [len_snoc]; omega) (by omega)
      rw [List.append_assoc, List.singleton_append, len_snoc] at e
      rw [e, List.append_assoc]; rfl
    · rw [if_neg h1, if_neg h1]
      by_cases h2 : y = x
      · rw [if_pos h2, if_pos h2, if_pos (by omega)]
      · rw [if_neg h2, if_neg h2, if_pos (by omega), if_pos (by omega)]
        simp only [List.length_append, List.length_singleton, List.length_cons, List.length_nil, Nat.add_zero, Nat.zero_add]
        rw [if_pos (by omega), if_pos (by omega), List.append_assoc]; rfl
theorem spec_l4Put_eq {l : List Int} {x : Int} {k : Nat} (hl : l.length ≤ 1048576) (hk : l.length < k) : spec_l4Put.f k l x = some (putI l x) := by
  unfold spec_l4Put.f
  exact spec_l4Put_l0 x l [] k (by simp; omega) hk

/-! ### spec_MovesFrom -/
def fromMv (a : Int) (s : Bool) (x : Mv) : Bool := (x.f0 == a) && (x.f1 == s)
def movesFrom (l : List Mv) (a : Int) (s : Bool) : List Int := l.foldl (fun acc x => if fromMv a s x = true then putI acc x.f2 else acc) []
theorem spec_MovesFrom_eq {n : Int} {e : List Bool} {l : List Mv} {a : Int} {s : Bool} {k : Nat} (hl : l.length ≤ 1048576) (hk : 2 * l.length + 2 < k) : spec_MovesFrom.f k n e l a s = some (movesFrom l a s) := by
  unfold spec_MovesFrom.f
  have h := fold_loop (g := fun k acc i => spec_MovesFrom.l0 k a s acc (i : Int) n e l) (n := l.length) (B := l.length + 1) (f := fun i acc => if fromMv a s (nt zMv l i) = true then putI acc (nt zMv l i).f2 else acc) (fin := fun acc => acc) (fun i acc => acc.length ≤ i) (fun k acc _ => by
      simp only [spec_MovesFrom.l0]; rw [if_neg (by omega)])
    (fun k i acc hi hk ha => by
      constructor
      · simp only [spec_MovesFrom.l0]
        rw [if_pos (by omega), if_pos (by omega), rd_Mv, wrap_up (n := l.length) hi (by omega)]
        by_cases h1 : (nt zMv l i).f0 = a
        · rw [if_pos h1]
          cases h2 : ((nt zMv l i).f1 == s) with
          | true => rw [if_pos rfl, if_pos (by simp [fromMv, h1, h2]), spec_l4Put_eq (by omega) (by omega), Option.bind_some]
          | false => rw [if_neg (by simp), if_neg (by simp [fromMv, h2])]
        · rw [if_neg h1, if_neg (by simp [fromMv, h1])]
      · have := putI_length acc (nt zMv l i).f2
        by_cases hq : fromMv a s (nt zMv l i) = true
        · rw [if_pos hq]; omega
        · rw [if_neg hq]; omega) l.length k 0 [] (by omega) (by omega) (by simp)
  have h2 := foldFrom_list (f := fun (acc : List Int) x => if fromMv a s x = true then putI acc x.f2 else acc) (l := l) (z := zMv) (s := [])
  rw [h2] at h
  simpa [movesFrom] using h
theorem movesFrom_nonempty (a : Int) (s : Bool) : ∀ (l : List Mv) (acc : List Int), (0 < (l.foldl (fun acc x => if fromMv a s x = true then putI acc x.f2 else acc) acc).length) ↔ (0 < acc.length ∨ l.any (fromMv a s) = true)
  | [], acc => by simp
  | x :: r, acc => by
    rw [List.foldl_cons, movesFrom_nonempty a s r, List.any_cons]
    have := putI_length acc x.f2
    by_cases h : fromMv a s x = true
    · rw [if_pos h, h]; simp; omega
    · rw [if_neg h]; simp [h]

/-! ### impl_MovesFrom -/
theorem movesFrom_sort (l : List Mv) (a : Int) (s : Bool) : movesFrom l a s = sortUniq ((l.filter (fromMv a s)).map (·.f2)) := by
  rw [sortUniq_eq]
  unfold movesFrom
  have : ∀ (l : List Mv) (acc : List Int), l.foldl (fun acc x => if fromMv a s x = true then putI acc x.f2 else acc) acc = ((l.filter (fromMv a s)).map (·.f2)).foldl putI acc := by
    intro l
    induction l with
    | nil => intro acc; rfl
    | cons x r ih =>
      intro acc
      rw [List.foldl_cons, List.filter_cons, ih]
      by_cases h : fromMv a s x = true
      · rw [if_pos h, if_pos h]; rfl
      · rw [if_neg h, if_neg h]
  exact this l []
theorem impl_MovesFrom_eq {n : Int} {e : List Bool} {l : List Mv} {a : Int} {s : Bool} {k : Nat} (hl : l.length ≤ 1048576) (hk : l.length < k) : impl_MovesFrom.f k n e l a s = some (movesFrom l a s) := by
  unfold impl_MovesFrom.f
  have h := filter_loopC (g := fun k acc i => impl_MovesFrom.l0 k a s acc l (l.length : Int) (i : Int)) (l := l) (z := zMv) (B := 0) (p := fromMv a s) (f := fun x => x.f2) (fin := fun acc => some (sortUniq acc)) (fun k acc _ ha => by
      simp only [impl_MovesFrom.l0]
      rw [if_neg (by omega)]
      unfold slices_Sort_int_int.f slices_Compact_int_int.f
      rw [if_pos (by omega), Option.bind_some, Option.bind_some]; rfl)
    (fun k i acc hi _ hacc => by
      simp only [impl_MovesFrom.l0]
      rw [if_pos (by omega), if_pos (by omega), if_pos (by omega), rd_Mv, wrap_up (n := l.length) hi (by omega)]
      by_cases h1 : (nt zMv l i).f0 = a
      · rw [if_pos h1]
        cases h2 : ((nt zMv l i).f1 == s) with
        | true => rw [if_pos rfl, if_pos (show acc.length < 17592186044416 by omega), if_pos (by simp [fromMv, h1, h2])]
        | false => rw [if_neg (by simp), if_neg (by simp [fromMv, h2])]
      · rw [if_neg h1, if_neg (by simp [fromMv, h1])]) l.length k 0 [] (by omega) (by omega) (by simp)
  rw [movesFrom_sort]
  simpa using h
theorem movesFrom_len (l : List Mv) (a : Int) (s : Bool) : (movesFrom l a s).length ≤ l.length := by
  rw [movesFrom_sort]; unfold sortUniq
  refine Nat.le_trans (compact_len _) ?_
  rw [List.length_mergeSort, List.length_map]
  exact List.length_filter_le _ _
theorem movesFrom_strict (l : List Mv) (a : Int) (s : Bool) : (movesFrom l a s).Pairwise (· < ·) := by rw [movesFrom_sort]; exact (sortUniq_spec _).1
theorem mem_movesFrom {l : List Mv} {a : Int} {s : Bool} {v : Int} : v ∈ movesFrom l a s ↔ ∃ x ∈ l, fromMv a s x = true ∧ x.f2 = v := by
  rw [movesFrom_sort, (sortUniq_spec _).2, List.mem_map]
  constructor
  · rintro ⟨x, hx, rfl⟩; rw [List.mem_filter] at hx; exact ⟨x, hx.1, hx.2, rfl⟩
  · rintro ⟨x, hx, h, rfl⟩; exact ⟨x, List.mem_filter.2 ⟨hx, h⟩, rfl⟩

end FnExactMovesFromAid
open FnExactMovesFromAid

theorem FnExactMovesFrom : laws_FnExactMovesFrom.Pure := by
  intro a e m s b ha he _ hm _ _
  obtain ⟨k, hk⟩ : ∃ k, k = 4000000 + 1000 := ⟨_, rfl⟩
  refine ⟨k + 1, ?_⟩
  unfold laws_FnExactMovesFrom.f
  rw [laws_szMachine_eq (by omega) (by omega) he hm, Option.bind_some]
  by_cases hb : (1048576 : Int) < e.length + m.length
  · rw [if_pos hb, if_pos (by omega)]
  · rw [if_neg hb, if_neg (by omega)]
    obtain ⟨M, hM⟩ : ∃ M, M = m.map convMv := ⟨_, rfl⟩
    have lM : M.length = m.length := by rw [hM]; exact List.length_map ..
    obtain ⟨c, q⟩ : ∃ c : List Int, c = movesFrom M s b := ⟨_, rfl⟩
    have hc : c.length ≤ M.length := by rw [q]; exact movesFrom_len M s b
    have F : ∀ k, 4000000 < k → laws_toMachine.f k a e m = some (a, e, M) ∧ laws_eqMachine.f k a e M a e M = some true ∧ spec_MovesFrom.f k a e M s b = some c ∧ impl_MovesFrom.f k a e M s b = some c ∧ laws_eqIntS.f k c c = some true ∧
        laws_markMachine.f k a e M 1 = some (1 + (e.length : Int) + 4 * M.length, markBs 1 e, markMvs (1 + e.length) M) ∧ laws_markIntS.f k c 1 = some (1 + (c.length : Int), seqFrom 1 c.length) ∧ laws_heldIntS.f k (seqFrom 1 c.length) 1 = some (1 + (c.length : Int)) := fun k hk =>
      ⟨by rw [laws_toMachine_eq (by omega) (by omega) (by omega), hM], laws_eqMachine_self (by omega) (by omega) (by omega), by rw [spec_MovesFrom_eq (by omega) (by omega), q], by rw [impl_MovesFrom_eq (by omega) (by omega), q], laws_eqIntS_self (by omega) (by omega), laws_markMachine_eq (by omega) (by omega) (by omega) (by omega) (by omega), laws_markIntS_eq (by omega) (by omega) (by omega) (by omega), laws_heldIntS_eq (by omega) (by omega) (by omega) (by omega)⟩
    obtain ⟨f1, f2, f3, f4, f5, f6, f7, f8⟩ := F k (by omega)
    obtain ⟨g1, g2, g3, g4, g5, g6, g7, g8⟩ := F (k + 1) (by omega)
    have p1 : ¬ (1 + (e.length : Int) + 4 * M.length < 0) := by omega
    have p2 : ¬ (1 + (c.length : Int) < 0) := by omega
    simp only [laws_FnExactMovesFrom.j0, f1, f2, f3, f4, f5, f6, f7, f8, g1, g2, g3, g4, g5, g6, g7, g8, p1, p2, Option.bind_some, Bool.false_eq_true, if_true, if_false, ↓reduceIte, bne_self_eq_false, Bool.not_true, Bool.not_false, Nat.le_add_right, Nat.le_refl]

end Go.Proofs.Ytfnbfconhpppfaa.Pure
