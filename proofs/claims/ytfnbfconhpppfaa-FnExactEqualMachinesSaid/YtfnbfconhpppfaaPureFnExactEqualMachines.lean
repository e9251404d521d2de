/- EqualMachines of the program and of the reference agree on every two machines, as a statement over lists alone; the bounds are those of memory. -/
import Derived.Test.YtfnbfconhpppfaaPFnExactEqualMachinesx6
import Derived.Test.YtfnbfconhpppfaaGb
import Derived.Test.YtfnbfconhpppfaaGr
namespace Go.Proofs.Ytfnbfconhpppfaa.Pure
open Go.RowKit Go.Proofs.Ytfnbfconhpppfaa.PFnExactEqualMachines Go.Proofs.YtfnbfconhpppfaaW.PrintWords Go.Proofs.YtfnbfconhpppfaaW.PrintLast Go.Proofs.Ytfnbfconhpppfaa.Gb Go.Proofs.Ytfnbfconhpppfaa.Gr Go.Proofs.Ytfnbfconhpppfaa
set_option linter.unusedSimpArgs false
set_option linter.unusedVariables false
namespace FnExactEqualMachinesAid

/-! ### T_Move -/
abbrev Mv := S80
abbrev LMv := S102
abbrev zMv : Mv := z80
abbrev zLMv : LMv := z102
theorem rd_Mv (l : List Mv) (i : Nat) : rd_T80 l (i : Int) = nt zMv l i := by simp [rd_T80, nt]
theorem rd_LMv (l : List LMv) (i : Nat) : rd_T102 l (i : Int) = nt zLMv l i := by simp [rd_T102, nt]
def convMv (x : LMv) : Mv := ⟨x.f0, x.f1, x.f2, x.f3⟩
def sameMv (x y : Mv) : Bool := (x.f0 == y.f0) && ((x.f1 == y.f1) && ((x.f2 == y.f2) && (x.f3 == y.f3)))
theorem sameMv_self (x : Mv) : sameMv x x = true := by simp [sameMv]
def eqBs (a b : List Bool) : Bool := decide (a.length = b.length) && allFrom (fun i => nt false a i == nt false b i) 0 a.length
def eqMvs (a b : List Mv) : Bool := decide (a.length = b.length) && allFrom (fun i => sameMv (nt zMv a i) (nt zMv b i)) 0 a.length
theorem rdb_cast (xs : List Bool) (i : Nat) : rdOf false xs (i : Int) = nt false xs i := rdOf_cast false xs i

/-! ### laws_szMachine -/
theorem laws_szMachine_eq {x : Int} {e : List Bool} {m : List LMv} {a : Int} (h0 : 0 ≤ a) (h1 : a ≤ 1048576) (he : e.length ≤ 9223372036854775807) (hm : m.length ≤ 9223372036854775807) : laws_szMachine.f x e m a = some (if a < e.length + m.length then -1 else a - (e.length + m.length)) := by
  unfold laws_szMachine.f laws_szBoolS.f
  rw [wrap_id (by omega) (by omega)]
  by_cases h : a - e.length < (0 : Int)
  · rw [if_pos h, Option.bind_some, if_pos (by omega), if_pos (by omega)]
  · rw [if_neg h, Option.bind_some, if_neg h]
    unfold laws_szMoveS.f
    rw [wrap_id (by omega) (by omega)]
    by_cases h2 : a - e.length - m.length < (0 : Int)
    · rw [if_pos h2, Option.bind_some, if_pos (by omega), if_pos (by omega)]
    · rw [if_neg h2, Option.bind_some, if_neg h2, if_neg (by omega)]; congr 1; omega

/-! ### laws_toMachine -/
theorem laws_toBoolS_eq {l : List Bool} {k : Nat} (hl : l.length ≤ 1048576) (hk : l.length < k) : laws_toBoolS.f k l = some l := by
  unfold laws_toBoolS.f
  rw [if_pos (by omega), toNat_cast, if_pos (by omega)]
  have h := map_loop (g := fun k acc i => laws_toBoolS.l0 k l acc (i : Int)) (l := l) (z := false) (zb := false) (f := id) (B := 0) (fun k acc ha => by
      simp only [laws_toBoolS.l0]; rw [if_neg (by omega)])
    (fun k i acc hi _ ha => by
      simp only [laws_toBoolS.l0]
      rw [if_pos (by omega), if_pos (by omega), rdb_cast, if_pos (by omega), wrap_up (n := l.length) hi (by omega), toNat_cast]; rfl) l.length k 0 (by omega) (by omega)
  simpa using h
theorem laws_toMoveS_eq {l : List LMv} {k : Nat} (hl : l.length ≤ 1048576) (hk : l.length < k) : laws_toMoveS.f k l = some (l.map convMv) := by
  unfold laws_toMoveS.f
  rw [if_pos (by omega), toNat_cast, if_pos (by omega)]
  have h := map_loop (g := fun k acc i => laws_toMoveS.l0 k l acc (i : Int)) (l := l) (z := zLMv) (zb := zMv) (f := convMv) (B := 0) (fun k acc ha => by
      simp only [laws_toMoveS.l0]; rw [if_neg (by omega)])
    (fun k i acc hi _ ha => by
      simp only [laws_toMoveS.l0]
      rw [if_pos (by omega), if_pos (by omega), rd_LMv]
      simp only [laws_toMove.f, Option.bind_some]
      rw [if_pos (by omega), wrap_up (n := l.length) hi (by omega), toNat_cast]; rfl) l.length k 0 (by omega) (by omega)
  simpa using h
theorem laws_toMachine_eq {x : Int} {e : List Bool} {m : List LMv} {k : Nat} (he : e.length ≤ 1048576) (hm : m.length ≤ 1048576) (hk : 1048577 < k) : laws_toMachine.f k x e m = some (x, e, m.map convMv) := by
  unfold laws_toMachine.f
  rw [laws_toBoolS_eq he (by omega), Option.bind_some, laws_toMoveS_eq hm (by omega), Option.bind_some]

/-! ### laws_eqMachine -/
theorem laws_eqBoolS_self {l : List Bool} {k : Nat} (hl : l.length ≤ 9223372036854775807) (hk : l.length < k) : laws_eqBoolS.f k l l = some true := by
  unfold laws_eqBoolS.f
  rw [if_pos rfl]
  exact pass_loop (g := fun k i => laws_eqBoolS.l0 k l l (i : Int)) (n := l.length) (B := 0) (fun k => by
      simp only [laws_eqBoolS.l0]; rw [if_neg (by omega)])
    (fun k i hi hk => by
      simp only [laws_eqBoolS.l0]
      rw [if_pos (by omega), if_pos (by omega), if_pos (by omega), wrap_up (n := l.length) hi hl, if_neg (by simp)]) l.length k 0 (by omega) (by omega)
theorem laws_eqMoveS_self {l : List Mv} {k : Nat} (hl : l.length ≤ 9223372036854775807) (hk : l.length < k) : laws_eqMoveS.f k l l = some true := by
  unfold laws_eqMoveS.f
  rw [if_pos rfl]
  exact pass_loop (g := fun k i => laws_eqMoveS.l0 k l l (i : Int)) (n := l.length) (B := 0) (fun k => by
      simp only [laws_eqMoveS.l0]; rw [if_neg (by omega)])
    (fun k i hi hk => by
      simp only [laws_eqMoveS.l0]
      rw [if_pos (by omega), if_pos (by omega), if_pos (by omega), wrap_up (n := l.length) hi hl]
      simp only [laws_eqMove.f, if_true, bne_self_eq_false, Bool.false_eq_true, if_false, Option.bind_some]) l.length k 0 (by omega) (by omega)
theorem laws_eqMachine_self {x : Int} {e : List Bool} {m : List Mv} {k : Nat} (he : e.length ≤ 1048576) (hm : m.length ≤ 1048576) (hk : 1048577 < k) : laws_eqMachine.f k x e m x e m = some true := by
  unfold laws_eqMachine.f
  rw [if_pos rfl, laws_eqBoolS_self (by omega) (by omega), Option.bind_some, if_pos rfl, laws_eqMoveS_self (by omega) (by omega), Option.bind_some, if_pos rfl]

/-! ### T_EqualMachines -/
def eqMach (a : Int) (e : List Bool) (m : List Mv) (b : Int) (f : List Bool) (n : List Mv) : Bool := decide (a = b) && (eqBs e f && eqMvs m n)

/-! ### spec_EqualMachines -/
theorem spec_EqualMachines_eq {a : Int} {e : List Bool} {m : List Mv} {b : Int} {f : List Bool} {n : List Mv} {k : Nat} (he : e.length ≤ 1048576) (hm : m.length ≤ 1048576) (hf : f.length ≤ 1048576) (hn : n.length ≤ 1048576) (hk : 2097160 < k) : spec_EqualMachines.f k a e m b f n = some (eqMach a e m b f n) := by
  obtain ⟨k, rfl⟩ := succ_of hk
  have hf' : ∀ k, 1048577 < k → e.length = f.length → m.length = n.length → spec_EqualMachines.l1 k 0 a e m b f n = some (allFrom (fun i => sameMv (nt zMv m i) (nt zMv n i)) 0 m.length && true) := fun k hk h1 h2 =>
    all_loop (g := fun k i => spec_EqualMachines.l1 k (i : Int) a e m b f n) (n := m.length) (B := 0) (fun k => by
      simp only [spec_EqualMachines.l1]; rw [if_neg (by omega)])
    (fun k i hi _ => by
      simp only [spec_EqualMachines.l1]
      rw [if_pos (by omega), if_pos (by omega), if_pos (by omega), rd_Mv, rd_Mv, wrap_up (n := m.length) hi (by omega)]
      have q : (!((nt zMv m i).f0 == (nt zMv n i).f0) || (!((nt zMv m i).f1 == (nt zMv n i).f1) || (!((nt zMv m i).f2 == (nt zMv n i).f2) || (!((nt zMv m i).f3 == (nt zMv n i).f3))))) = !sameMv (nt zMv m i) (nt zMv n i) := by simp [sameMv, Bool.not_and]
      rw [q]
      cases sameMv (nt zMv m i) (nt zMv n i) <;> rfl) m.length k 0 (by omega) (by omega)
  have hg : ∀ k, 2097157 < k → e.length = f.length → m.length = n.length → spec_EqualMachines.l0 k 0 a e m b f n = some (allFrom (fun i => nt false e i == nt false f i) 0 e.length && (allFrom (fun i => sameMv (nt zMv m i) (nt zMv n i)) 0 m.length && true)) := fun k hk h1 h2 =>
    all_loop2 (g := fun k i => spec_EqualMachines.l0 k (i : Int) a e m b f n) (n := e.length) (B := 1048578) (fun k hk => by
      simp only [spec_EqualMachines.l0]; rw [if_neg (by omega)]; exact hf' k (by omega) h1 h2)
    (fun k i hi _ => by
      simp only [spec_EqualMachines.l0]
      rw [if_pos (by omega), if_pos (by omega), if_pos (by omega), rdb_cast, rdb_cast, wrap_up (n := e.length) hi (by omega)]
      cases nt false e i <;> cases nt false f i <;> rfl) e.length k 0 (by omega) (by omega)
  unfold spec_EqualMachines.f eqMach eqBs eqMvs
  simp only [spec_EqualMachines.j0]
  by_cases h1 : a = b
  · by_cases h2 : e.length = f.length
    · by_cases h3 : m.length = n.length
      · rw [if_pos h1, if_pos (by omega), if_neg (by simp [h3]), hg k (by omega) h2 h3]; simp [h1, h2, h3]
      · rw [if_pos h1, if_pos (by omega), if_pos (by simp; omega)]; simp [h3]
    · rw [if_pos h1, if_neg (by omega), if_pos trivial]; simp [h2]
  · rw [if_neg h1, if_pos trivial]; simp [h1]

/-! ### impl_EqualMachines -/
theorem slices_Equal_bool_bool_eq {e f : List Bool} {k : Nat} (he : e.length ≤ 1048576) (hk : 1048576 < k) : slices_Equal_bool_bool.f k e f = some (eqBs e f) := by
  unfold slices_Equal_bool_bool.f eqBs
  by_cases h : e.length = f.length
  · rw [if_pos (by omega)]
    have q := all_loop (g := fun k i => slices_Equal_bool_bool.l0 k e f (e.length : Int) (i : Int)) (n := e.length) (B := 0) (ok := fun i => nt false e i == nt false f i) (fin := true) (fun k => by
      simp only [slices_Equal_bool_bool.l0]; rw [if_neg (by omega)])
     (fun k i hi _ => by
      simp only [slices_Equal_bool_bool.l0]
      rw [if_pos (by omega), if_pos (by omega), if_pos (by omega), if_pos (by omega), rdb_cast, rdb_cast, wrap_up (n := e.length) hi (by omega)]
      cases nt false e i <;> cases nt false f i <;> rfl) e.length k 0 (by omega) (by omega)
    simpa [h] using q
  · rw [if_neg (by omega)]; simp [h]
theorem impl_Move_eq {m n : List Mv} {k : Nat} (he : m.length ≤ 1048576) (hk : 1048576 < k) : impl_Move.f k m n = some (eqMvs m n) := by
  unfold impl_Move.f eqMvs
  by_cases h : m.length = n.length
  · rw [if_pos (by omega)]
    have q := all_loop (g := fun k i => impl_Move.l0 k m n (m.length : Int) (i : Int)) (n := m.length) (B := 0) (ok := fun i => sameMv (nt zMv m i) (nt zMv n i)) (fin := true) (fun k => by
      simp only [impl_Move.l0]; rw [if_neg (by omega)])
     (fun k i hi _ => by
      simp only [impl_Move.l0]
      rw [if_pos (by omega), if_pos (by omega), if_pos (by omega), if_pos (by omega), rd_Mv, rd_Mv, wrap_up (n := m.length) hi (by omega)]
      have q : (!((nt zMv m i).f0 == (nt zMv n i).f0) || (!((nt zMv m i).f1 == (nt zMv n i).f1) || (!((nt zMv m i).f2 == (nt zMv n i).f2) || (!((nt zMv m i).f3 == (nt zMv n i).f3))))) = !sameMv (nt zMv m i) (nt zMv n i) := by simp [sameMv, Bool.not_and]
      rw [q]
      cases sameMv (nt zMv m i) (nt zMv n i) <;> rfl) m.length k 0 (by omega) (by omega)
    simpa [h] using q
  · rw [if_neg (by omega)]; simp [h]
theorem impl_EqualMachines_eq {a : Int} {e : List Bool} {m : List Mv} {b : Int} {f : List Bool} {n : List Mv} {k : Nat} (he : e.length ≤ 1048576) (hm : m.length ≤ 1048576) (hk : 1048576 < k) : impl_EqualMachines.f k a e m b f n = some (eqMach a e m b f n) := by
  unfold impl_EqualMachines.f eqMach
  by_cases h1 : a = b
  · rw [if_pos h1, slices_Equal_bool_bool_eq he hk, Option.bind_some, impl_Move_eq hm hk]
    cases eqBs e f <;> simp [h1]
  · rw [if_neg h1]; simp [h1]

end FnExactEqualMachinesAid
open FnExactEqualMachinesAid

theorem FnExactEqualMachines : laws_FnExactEqualMachines.Pure := by
  intro a e m b f n _ he _ hm _ _ hf _ hn _
  obtain ⟨k, hk⟩ : ∃ k, k = 2097152 + 1000 := ⟨_, rfl⟩
  refine ⟨k, ?_⟩
  unfold laws_FnExactEqualMachines.f
  rw [laws_szMachine_eq (by omega) (by omega) he hm, Option.bind_some]
  by_cases hb : (1048576 : Int) < e.length + m.length
  · rw [if_pos hb, if_pos (by omega)]
  · rw [if_neg hb, if_neg (by omega), laws_szMachine_eq (by omega) (by omega) hf hn, Option.bind_some]
    by_cases hc : (1048576 : Int) - (e.length + m.length) < f.length + n.length
    · rw [if_pos hc, if_pos (by omega)]
    · rw [if_neg hc, if_neg (by omega)]
      obtain ⟨M, hM⟩ : ∃ M, M = m.map convMv := ⟨_, rfl⟩
      obtain ⟨N, hN⟩ : ∃ N, N = n.map convMv := ⟨_, rfl⟩
      have lM : M.length = m.length := by rw [hM]; exact List.length_map ..
      have lN : N.length = n.length := by rw [hN]; exact List.length_map ..
      have f1 : laws_toMachine.f k a e m = some (a, e, M) := by rw [laws_toMachine_eq (by omega) (by omega) (by omega), hM]
      have f2 : laws_toMachine.f k b f n = some (b, f, N) := by rw [laws_toMachine_eq (by omega) (by omega) (by omega), hN]
      have f3 : spec_EqualMachines.f k a e M b f N = some (eqMach a e M b f N) := spec_EqualMachines_eq (by omega) (by omega) (by omega) (by omega) (by omega)
      have f4 : impl_EqualMachines.f k a e M b f N = some (eqMach a e M b f N) := impl_EqualMachines_eq (by omega) (by omega) (by omega)
      have f5 : laws_eqMachine.f k a e M a e M = some true := laws_eqMachine_self (by omega) (by omega) (by omega)
      have f6 : laws_eqMachine.f k b f N b f N = some true := laws_eqMachine_self (by omega) (by omega) (by omega)
      simp only [f1, f2, f3, f4, f5, f6, Option.bind_some, Bool.false_eq_true, if_true, if_false, ↓reduceIte, bne_self_eq_false, Bool.not_true, Bool.not_false, Nat.le_add_right, Nat.le_refl]

end Go.Proofs.Ytfnbfconhpppfaa.Pure
