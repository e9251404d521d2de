/- DualOf of the program and of the reference agree on every machine, as a statement over lists alone; the bounds are those of memory. -/
import Derived.Test.YtjlaogjikkckkaaPFnExactDualOfx6
import Derived.Test.YtjlaogjikkckkaaGb
import Derived.Test.YtjlaogjikkckkaaGr
namespace Go.Proofs.Ytjlaogjikkckkaa.Pure
open Go.RowKit Go.Proofs.Ytjlaogjikkckkaa.PFnExactDualOf Go.Proofs.YtjlaogjikkckkaaW.PrintWords Go.Proofs.YtjlaogjikkckkaaW.PrintLast Go.Proofs.Ytjlaogjikkckkaa.Gb Go.Proofs.Ytjlaogjikkckkaa.Gr Go.Proofs.Ytjlaogjikkckkaa
set_option linter.unusedSimpArgs false
set_option linter.unusedVariables false
namespace FnExactDualOfAid

/-! ### T_Move -/
abbrev Mv := S54
abbrev zMv : Mv := z54
theorem rd_Mv (l : List Mv) (i : Nat) : rd_T54 l (i : Int) = nt zMv l i := by simp [rd_T54, nt]
def sameMv (x y : Mv) : Bool := (x.f0 == y.f0) && ((x.f1 == y.f1) && ((x.f2 == y.f2) && (x.f3 == y.f3)))
theorem sameMv_self (x : Mv) : sameMv x x = true := by simp [sameMv]
def eqBs (a b : List Bool) : Bool := decide (a.length = b.length) && allFrom (fun i => nt false a i == nt false b i) 0 a.length
def eqMvs (a b : List Mv) : Bool := decide (a.length = b.length) && allFrom (fun i => sameMv (nt zMv a i) (nt zMv b i)) 0 a.length
theorem rdb_cast (xs : List Bool) (i : Nat) : rdOf false xs (i : Int) = nt false xs i := rdOf_cast false xs i

/-! ### T_LMove -/
abbrev LMv := S74
abbrev zLMv : LMv := z74
theorem rd_LMv (l : List LMv) (i : Nat) : rd_T74 l (i : Int) = nt zLMv l i := by simp [rd_T74, nt]
def convMv (x : LMv) : Mv := ⟨x.f0, x.f1, x.f2, x.f3⟩

/-! ### laws_szMachine -/
theorem laws_szMachine_eq {x : Int} {e : List Bool} {m : List LMv} {a : Int} (h0 : 0 ≤ a) (h1 : a ≤ 1048576) (he : e.length ≤ 9223372036854775807) (hm : m.length ≤ 9223372036854775807) : laws_szMachine.f x e m a = some (if a < e.length + m.length then -1 else a - (e.length + m.length)) := by
  unfold laws_szMachine.f laws_szBoolS.f
  rw [wrap_id (by omega) (by omega)]
  by_cases h : a - e.length < (0 : Int)
  · rw [if_pos h, Option.bind_some, if_pos (by omega), if_pos (by omega)]
  · rw [if_neg h, Option.bind_some, if_neg h]
    unfold laws_szMoveS.f
    rw [wrap_id (by omega) (by omega)]
    by_cases h2 : a - e.length - m.length < (0 : Int)
    · rw [if_pos h2, Option.bind_some, if_pos (by omega), if_pos (by omega)]
    · rw [if_neg h2, Option.bind_some, if_neg h2, if_neg (by omega)]; congr 1; omega

/-! ### laws_toMachine -/
theorem laws_toBoolS_eq {l : List Bool} {k : Nat} (hl : l.length ≤ 1048576) (hk : l.length < k) : laws_toBoolS.f k l = some l := by
  unfold laws_toBoolS.f
  rw [if_pos (by omega), toNat_cast, if_pos (by omega)]
  have h := map_loop (g := fun k acc i => laws_toBoolS.l0 k l acc (i : Int)) (l := l) (z := false) (zb := false) (f := id) (B := 0) (fun k acc ha => by
      simp only [laws_toBoolS.l0]; rw [if_neg (by omega)])
    (fun k i acc hi _ ha => by
      simp only [laws_toBoolS.l0]
      rw [if_pos (by omega), if_pos (by omega), rdb_cast, if_pos (by omega), wrap_up (n := l.length) hi (by omega), toNat_cast]; rfl) l.length k 0 (by omega) (by omega)
  simpa using h
theorem laws_toMoveS_eq {l : List LMv} {k : Nat} (hl : l.length ≤ 1048576) (hk : l.length < k) : laws_toMoveS.f k l = some (l.map convMv) := by
  unfold laws_toMoveS.f
  rw [if_pos (by omega), toNat_cast, if_pos (by omega)]
  have h := map_loop (g := fun k acc i => laws_toMoveS.l0 k l acc (i : Int)) (l := l) (z := zLMv) (zb := zMv) (f := convMv) (B := 0) (fun k acc ha => by
      simp only [laws_toMoveS.l0]; rw [if_neg (by omega)])
    (fun k i acc hi _ ha => by
      simp only [laws_toMoveS.l0]
      rw [if_pos (by omega), if_pos (by omega), rd_LMv]
      simp only [laws_toMove.f, Option.bind_some]
      rw [if_pos (by omega), wrap_up (n := l.length) hi (by omega), toNat_cast]; rfl) l.length k 0 (by omega) (by omega)
  simpa using h
theorem laws_toMachine_eq {x : Int} {e : List Bool} {m : List LMv} {k : Nat} (he : e.length ≤ 1048576) (hm : m.length ≤ 1048576) (hk : 1048577 < k) : laws_toMachine.f k x e m = some (x, e, m.map convMv) := by
  unfold laws_toMachine.f
  rw [laws_toBoolS_eq he (by omega), Option.bind_some, laws_toMoveS_eq hm (by omega), Option.bind_some]

/-! ### laws_eqMachine -/
theorem laws_eqBoolS_self {l : List Bool} {k : Nat} (hl : l.length ≤ 9223372036854775807) (hk : l.length < k) : laws_eqBoolS.f k l l = some true := by
  unfold laws_eqBoolS.f
  rw [if_pos rfl]
  exact pass_loop (g := fun k i => laws_eqBoolS.l0 k l l (i : Int)) (n := l.length) (B := 0) (fun k => by
      simp only [laws_eqBoolS.l0]; rw [if_neg (by omega)])
    (fun k i hi hk => by
      simp only [laws_eqBoolS.l0]
      rw [if_pos (by omega), if_pos (by omega), if_pos (by omega), wrap_up (n := l.length) hi hl, if_neg (by simp)]) l.length k 0 (by omega) (by omega)
theorem laws_eqMoveS_self {l : List Mv} {k : Nat} (hl : l.length ≤ 9223372036854775807) (hk : l.length < k) : laws_eqMoveS.f k l l = some true := by
  unfold laws_eqMoveS.f
  rw [if_pos rfl]
  exact pass_loop (g := fun k i => laws_eqMoveS.l0 k l l (i : Int)) (n := l.length) (B := 0) (fun k => by
      simp only [laws_eqMoveS.l0]; rw [if_neg (by omega)])
    (fun k i hi hk => by
      simp only [laws_eqMoveS.l0]
      rw [if_pos (by omega), if_pos (by omega), if_pos (by omega), wrap_up (n := l.length) hi hl]
      simp only [laws_eqMove.f, if_true, bne_self_eq_false, Bool.false_eq_true, if_false, Option.bind_some]) l.length k 0 (by omega) (by omega)
theorem laws_eqMachine_self {x : Int} {e : List Bool} {m : List Mv} {k : Nat} (he : e.length ≤ 1048576) (hm : m.length ≤ 1048576) (hk : 1048577 < k) : laws_eqMachine.f k x e m x e m = some true := by
  unfold laws_eqMachine.f
  rw [if_pos rfl, laws_eqBoolS_self (by omega) (by omega), Option.bind_some, if_pos rfl, laws_eqMoveS_self (by omega) (by omega), Option.bind_some, if_pos rfl]

/-! ### laws_markMachine -/
def markBs : Int → List Bool → List Bool
  | _, [] => []
  | a, _ :: r => (Int.tmod a 3 == 0) :: markBs (a + 1) r
def markMvs : Int → List Mv → List Mv
  | _, [] => []
  | a, _ :: r => (⟨a, (Int.tmod (a + 1) 3 == 0), a + 2, a + 3⟩ : Mv) :: markMvs (a + 4) r
theorem markBs_length (a : Int) (l : List Bool) : (markBs a l).length = l.length := by
  induction l generalizing a with
  | nil => rfl
  | cons x r ih => simp [markBs, ih]
theorem markMvs_length (a : Int) (l : List Mv) : (markMvs a l).length = l.length := by
  induction l generalizing a with
  | nil => rfl
  | cons x r ih => simp [markMvs, ih]
theorem laws_markBoolS_l0 : ∀ (rest done : List Bool) (k : Nat) (a : Int), done.length + rest.length ≤ 4611686018427387904 → 0 ≤ a → a + rest.length ≤ 4611686018427387903 → rest.length < k →
    laws_markBoolS.l0 k (done ++ rest) a (done.length : Int) = some (a + rest.length, done ++ markBs a rest) := by
  intro rest
  induction rest with
  | nil =>
    intro done k a hl h0 h1 hk
    obtain ⟨k, rfl⟩ := succ_of hk
    simp only [laws_markBoolS.l0, List.append_nil]; rw [if_neg (by omega)]; simp [markBs]
  | cons x r ih =>
    intro done k a hl h0 h1 hk
    obtain ⟨k, rfl⟩ := succ_of hk
    simp only [List.length_cons] at hl h1 hk ⊢
    simp only [laws_markBoolS.l0]
    rw [if_pos (by rw [len_at]; omega), if_pos (by omega), wrap_id (x := a + 1) (by omega) (by omega), toNat_cast, set_at, wrap_up (n := done.length + 1) (by omega) (by omega), ← len_snoc done (Int.tmod a 3 == 0), ih _ k _ (by rw [len_snoc]; omega) (by omega) (by omega) (by omega)]
    simp only [markBs, List.append_assoc, List.singleton_append]
    congr 2; omega
theorem laws_markMoveS_l0 : ∀ (rest done : List Mv) (k : Nat) (a : Int), done.length + rest.length ≤ 1048576 → 0 ≤ a → a + 4 * rest.length ≤ 4611686018427387903 → rest.length < k →
    laws_markMoveS.l0 k (done ++ rest) a (done.length : Int) = some (a + 4 * rest.length, done ++ markMvs a rest) := by
  intro rest
  induction rest with
  | nil =>
    intro done k a hl h0 h1 hk
    obtain ⟨k, rfl⟩ := succ_of hk
    simp only [laws_markMoveS.l0, List.append_nil]; rw [if_neg (by omega)]; simp [markMvs]
  | cons x r ih =>
    intro done k a hl h0 h1 hk
    obtain ⟨k, rfl⟩ := succ_of hk
    simp only [List.length_cons] at hl h1 hk ⊢
    simp only [laws_markMoveS.l0]
    rw [if_pos (by rw [len_at]; omega), if_pos (by omega)]
    simp only [Option.bind_some, toNat_cast, rd_Mv, nt_at, set_at, nt_mid zMv done r _ done.length rfl, set_mid done r _ _ done.length rfl]
    rw [wrap_id (x := a + 1) (by omega) (by omega), wrap_id (x := a + 1 + 1) (by omega) (by omega), wrap_id (x := a + 1 + 1 + 1) (by omega) (by omega), wrap_id (x := a + 1 + 1 + 1 + 1) (by omega) (by omega), wrap_up (n := done.length + 1) (by omega) (by omega)]
    have e1 : a + 1 + 1 = a + 2 := by omega
    have e2 : a + 2 + 1 = a + 3 := by omega
    have e3 : a + 3 + 1 = a + 4 := by omega
    rw [e1, e2, e3, ← len_snoc done (⟨a, (Int.tmod (a + 1) 3 == 0), a + 2, a + 3⟩ : Mv), ih _ k _ (by rw [len_snoc]; omega) (by omega) (by omega) (by omega)]
    simp only [markMvs, List.append_assoc, List.singleton_append]
    congr 2; omega
theorem laws_markMachine_eq {n : Int} {e : List Bool} {l : List Mv} {a : Int} {k : Nat} (he : e.length ≤ 1048576) (hl : l.length ≤ 1048576) (h0 : 0 ≤ a) (h1 : a ≤ 1048576) (hk : 1048577 < k) : laws_markMachine.f k n e l a = some (a + e.length + 4 * l.length, markBs a e, markMvs (a + e.length) l) := by
  unfold laws_markMachine.f laws_markBoolS.f laws_markMoveS.f
  have f1 := laws_markBoolS_l0 e [] k a (by simp; omega) h0 (by omega) (by omega)
  have f2 := laws_markMoveS_l0 l [] k (a + e.length) (by simp; omega) (by omega) (by omega) (by omega)
  simp only [List.nil_append, List.length_nil, Int.ofNat_zero, Int.natCast_zero] at f1 f2
  rw [show laws_markBoolS.l0 k e a 0 = _ from f1, Option.bind_some, show laws_markMoveS.l0 k l (a + e.length) 0 = _ from f2, Option.bind_some]

/-! ### laws_heldMachine -/
theorem laws_heldBoolS_l0 : ∀ (rest done : List Bool) (k : Nat) (a : Int), done.length + rest.length ≤ 4611686018427387904 → 0 ≤ a → a + rest.length ≤ 4611686018427387903 → rest.length < k →
    laws_heldBoolS.l0 k (done ++ markBs a rest) a (done.length : Int) = some (a + rest.length) := by
  intro rest
  induction rest with
  | nil =>
    intro done k a hl h0 h1 hk
    obtain ⟨k, rfl⟩ := succ_of hk
    simp only [laws_heldBoolS.l0, markBs, List.append_nil]; rw [if_neg (by omega)]; simp
  | cons x r ih =>
    intro done k a hl h0 h1 hk
    obtain ⟨k, rfl⟩ := succ_of hk
    simp only [List.length_cons] at hl h1 hk ⊢
    rw [show markBs a (x :: r) = (Int.tmod a 3 == 0) :: markBs (a + 1) r from rfl]
    simp only [laws_heldBoolS.l0]
    rw [if_pos (by rw [len_at]; omega), if_pos (by omega), rdb_cast, nt_at, if_neg (by simp), wrap_id (x := a + 1) (by omega) (by omega), wrap_up (n := done.length + 1) (by omega) (by omega)]
    have e := ih (done ++ [(Int.tmod a 3 == 0)]) k (a + 1) (by rw [len_snoc]; omega) (by omega) (by omega) (by omega)
    rw [List.append_assoc, List.singleton_append, len_snoc] at e
    rw [e]; congr 1; omega
theorem laws_heldMoveS_l0 : ∀ (rest done : List Mv) (k : Nat) (a : Int), done.length + rest.length ≤ 1048576 → 0 ≤ a → a + 4 * rest.length ≤ 4611686018427387903 → rest.length < k →
    laws_heldMoveS.l0 k (done ++ markMvs a rest) a (done.length : Int) = some (a + 4 * rest.length) := by
  intro rest
  induction rest with
  | nil =>
    intro done k a hl h0 h1 hk
    obtain ⟨k, rfl⟩ := succ_of hk
    simp only [laws_heldMoveS.l0, markMvs, List.append_nil]; rw [if_neg (by omega)]; simp
  | cons x r ih =>
    intro done k a hl h0 h1 hk
    obtain ⟨k, rfl⟩ := succ_of hk
    simp only [List.length_cons] at hl h1 hk ⊢
    rw [show markMvs a (x :: r) = (⟨a, (Int.tmod (a + 1) 3 == 0), a + 2, a + 3⟩ : Mv) :: markMvs (a + 4) r from rfl]
    simp only [laws_heldMoveS.l0]
    have e1 : a + 1 + 1 = a + 2 := by omega
    have e2 : a + 2 + 1 = a + 3 := by omega
    have e3 : a + 3 + 1 = a + 4 := by omega
    rw [wrap_id (x := a + 1) (by omega) (by omega), wrap_id (x := a + 1 + 1) (by omega) (by omega), wrap_id (x := a + 1 + 1 + 1) (by omega) (by omega), wrap_id (x := a + 1 + 1 + 1 + 1) (by omega) (by omega), e1, e2, e3]
    simp only [rd_Mv, nt_at]
    rw [if_pos (by rw [len_at]; omega), if_pos (by omega), if_pos trivial, if_neg (by simp), if_pos trivial, if_pos trivial, wrap_up (n := done.length + 1) (by omega) (by omega)]
    have e := ih (done ++ [(⟨a, (Int.tmod (a + 1) 3 == 0), a + 2, a + 3⟩ : Mv)]) k (a + 4) (by rw [len_snoc]; omega) (by omega) (by omega) (by omega)
    rw [List.append_assoc, List.singleton_append, len_snoc] at e
    rw [e]; congr 1; omega
theorem laws_heldMachine_eq {n : Int} {e : List Bool} {l : List Mv} {a : Int} {k : Nat} (he : e.length ≤ 1048576) (hl : l.length ≤ 1048576) (h0 : 0 ≤ a) (h1 : a ≤ 1048576) (hk : 1048577 < k) : laws_heldMachine.f k n (markBs a e) (markMvs (a + e.length) l) a = some (a + e.length + 4 * l.length) := by
  unfold laws_heldMachine.f laws_heldBoolS.f laws_heldMoveS.f
  have f1 := laws_heldBoolS_l0 e [] k a (by simp; omega) h0 (by omega) (by omega)
  have f2 := laws_heldMoveS_l0 l [] k (a + e.length) (by simp; omega) (by omega) (by omega) (by omega)
  simp only [List.nil_append, List.length_nil, Int.ofNat_zero, Int.natCast_zero] at f1 f2
  rw [show laws_heldBoolS.l0 k (markBs a e) a 0 = _ from f1, Option.bind_some, if_neg (by omega), show laws_heldMoveS.l0 k (markMvs (a + e.length) l) (a + e.length) 0 = _ from f2, Option.bind_some, if_neg (by omega)]

/-! ### T_dual -/
def flipMv (x : Mv) : Mv := ⟨x.f0, !x.f1, x.f2, x.f3⟩

/-! ### spec_DualOf -/
theorem spec_DualOf_eq {n : Int} {e : List Bool} {l : List Mv} {k : Nat} (he : e.length ≤ 1048576) (hl : l.length ≤ 1048576) (hk : l.length < k) : spec_DualOf.f k n e l = some (n, e, l.map flipMv) := by
  unfold spec_DualOf.f
  rw [Option.bind_some, if_pos (by rw [List.length_nil]; omega), List.nil_append]
  have h : ∀ (d k i : Nat) (acc : List Mv), i + d = l.length → d < k → acc.length ≤ i → spec_DualOf.l0 k (i : Int) n e l n e acc = some (n, e, acc ++ (l.drop i).map flipMv) := by
    intro d
    induction d with
    | zero =>
      intro k i acc hi hk ha
      obtain ⟨k, rfl⟩ := succ_of hk
      obtain rfl : i = l.length := by omega
      simp only [spec_DualOf.l0]
      rw [if_neg (by omega), drop_end]; simp
    | succ d ih =>
      intro k i acc hi hk ha
      obtain ⟨k, rfl⟩ := succ_of hk
      simp only [spec_DualOf.l0]
      rw [if_pos (by omega), if_pos (by omega), if_pos (by omega), wrap_up (n := l.length) (by omega) (by omega), rd_Mv, drop_step l zMv i (by omega), ih k (i + 1) _ (by omega) (by omega) (by rw [List.length_append, List.length_singleton]; omega), List.append_assoc, List.map_cons]
      rfl
  have := h l.length k 0 [] (by omega) hk (by simp)
  rw [List.drop_zero, List.nil_append] at this
  exact this

/-! ### impl_DualOf -/
theorem impl_DualOf_l0 {n : Int} {e : List Bool} : ∀ (rest done : List Mv) (k : Nat), done.length + rest.length ≤ 1048576 → rest.length < k → impl_DualOf.l0 k ((done.length + rest.length : Nat) : Int) (done.length : Int) n e (done ++ rest) = some (n, e, done ++ rest.map flipMv) := by
  intro rest
  induction rest with
  | nil =>
    intro done k hl hk
    obtain ⟨k, rfl⟩ := succ_of hk
    simp only [impl_DualOf.l0, List.length_nil, Nat.add_zero]
    rw [if_neg (by omega)]; simp
  | cons x r ih =>
    intro done k hl hk
    obtain ⟨k, rfl⟩ := succ_of hk
    simp only [List.length_cons] at hl hk ⊢
    simp only [impl_DualOf.l0]
    rw [if_pos (by omega), if_pos (by omega), if_pos (by rw [len_at]; omega), toNat_cast, rd_Mv, nt_at, set_at, wrap_up (n := done.length + 1) (by omega) (by omega)]
    have h := ih (done ++ [flipMv x]) k (by rw [len_snoc]; omega) (by omega)
    rw [len_snoc, show done.length + 1 + r.length = done.length + (r.length + 1) by omega] at h
    rw [show (⟨x.f0, !x.f1, x.f2, x.f3⟩ : Mv) = flipMv x from rfl, h, List.append_assoc, List.map_cons]; rfl
theorem impl_DualOf_eq {n : Int} {e : List Bool} {l : List Mv} {k : Nat} (he : e.length ≤ 1048576) (hl : l.length ≤ 1048576) (hk : l.length < k) : impl_DualOf.f k n e l = some (n, e, l.map flipMv) := by
  unfold impl_DualOf.f
  have h := impl_DualOf_l0 (n := n) (e := e) l [] k (by simp; omega) hk
  simp only [List.nil_append, List.length_nil, Nat.zero_add] at h
  simp only [Option.bind_some, List.nil_append, List.length_nil, Nat.zero_add]
  rw [if_pos (by omega), if_pos (by omega)]
  exact h

end FnExactDualOfAid
open FnExactDualOfAid

theorem FnExactDualOf : laws_FnExactDualOf.Pure := by
  intro a e m _ he _ hm _
  obtain ⟨k, hk⟩ : ∃ k, k = 4000000 := ⟨_, rfl⟩
  refine ⟨k + 1, ?_⟩
  unfold laws_FnExactDualOf.f
  rw [laws_szMachine_eq (by omega) (by omega) he hm, Option.bind_some]
  by_cases hb : (1048576 : Int) < e.length + m.length
  · rw [if_pos hb, if_pos (by omega)]
  · rw [if_neg hb, if_neg (by omega)]
    obtain ⟨M, hM⟩ : ∃ M, M = m.map convMv := ⟨_, rfl⟩
    have lM : M.length = m.length := by rw [hM]; exact List.length_map ..
    obtain ⟨D, hD⟩ : ∃ D, D = M.map flipMv := ⟨_, rfl⟩
    have lD : D.length = m.length := by rw [hD, List.length_map]; exact lM
    have f1 : laws_toMachine.f (k + 1) a e m = some (a, e, M) := by rw [laws_toMachine_eq (by omega) (by omega) (by omega), hM]
    have f2 : spec_DualOf.f (k + 1) a e M = some (a, e, D) := by rw [spec_DualOf_eq (by omega) (by omega) (by omega), hD]
    have f3 : impl_DualOf.f (k + 1) a e M = some (a, e, D) := by rw [impl_DualOf_eq (by omega) (by omega) (by omega), hD]
    have f4 : laws_eqMachine.f (k + 1) a e D a e D = some true := laws_eqMachine_self (by omega) (by omega) (by omega)
    have f5 : laws_eqMachine.f (k + 1) a e M a e M = some true := laws_eqMachine_self (by omega) (by omega) (by omega)
    have f6 : laws_markMachine.f (k + 1) a e M 1 = some (1 + (e.length : Int) + 4 * (M.length : Int), markBs 1 e, markMvs (1 + e.length) M) := laws_markMachine_eq (by omega) (by omega) (by omega) (by omega) (by omega)
    have p1 : ¬ ((1 : Int) + e.length + 4 * M.length < 0) := by omega
    have g1 : laws_toMachine.f k a e m = some (a, e, M) := by rw [laws_toMachine_eq (by omega) (by omega) (by omega), hM]
    have g3 : impl_DualOf.f k a e M = some (a, e, D) := by rw [impl_DualOf_eq (by omega) (by omega) (by omega), hD]
    have g4 : laws_eqMachine.f k a e D a e D = some true := laws_eqMachine_self (by omega) (by omega) (by omega)
    have g6 : laws_markMachine.f k a e D 1 = some (1 + (e.length : Int) + 4 * (D.length : Int), markBs 1 e, markMvs (1 + e.length) D) := laws_markMachine_eq (by omega) (by omega) (by omega) (by omega) (by omega)
    have g7 : laws_heldMachine.f k a (markBs 1 e) (markMvs (1 + e.length) D) 1 = some (1 + (e.length : Int) + 4 * (D.length : Int)) := laws_heldMachine_eq (by omega) (by omega) (by omega) (by omega) (by omega)
    have p2 : ¬ ((1 : Int) + e.length + 4 * D.length < 0) := by omega
    simp only [f1, f2, f3, f4, f5, f6, p1, g1, g3, g4, g6, g7, p2, laws_FnExactDualOf.j0, Option.bind_some, Bool.false_eq_true, if_true, if_false, Bool.not_true]

end Go.Proofs.Ytjlaogjikkckkaa.Pure
