/- The law FnMachines answers true on every list of bytes, as a statement over lists alone; the bounds are those of memory. -/
import Derived.Test.YtjlaogjikkckkaaPFnMachinesx10
import Derived.Test.YtjlaogjikkckkaaGb
import Derived.Test.YtjlaogjikkckkaaGr
import Derived.Test.YtjlaogjikkckkaaGm
namespace Go.Proofs.Ytjlaogjikkckkaa.Pure
open Go.RowKit Go.Proofs.Ytjlaogjikkckkaa.PFnMachines Go.Proofs.YtjlaogjikkckkaaW.PrintWords Go.Proofs.YtjlaogjikkckkaaW.PrintLast Go.Proofs.Ytjlaogjikkckkaa.Gb Go.Proofs.Ytjlaogjikkckkaa.Gr Go.Proofs.Ytjlaogjikkckkaa.Gm Go.Proofs.Ytjlaogjikkckkaa
set_option linter.unusedSimpArgs false
set_option linter.unusedVariables false
namespace FnMachinesAid

/-! ### T_draw -/
theorem and_byte (x : Int) : 0 ≤ Go.bits .and .i64 x 255 ∧ Go.bits .and .i64 x 255 ≤ 255 := by
  have h : (BitVec.ofInt 64 x &&& BitVec.ofInt 64 255).toNat ≤ 255 := by
    rw [BitVec.toNat_and]
    exact Nat.le_trans Nat.and_le_right (by decide)
  have e : Go.bits .and .i64 x 255 = IntKind.i64.wrap ((BitVec.ofInt 64 x &&& BitVec.ofInt 64 255).toNat : Int) := rfl
  rw [e, IntKind.wrap_i64]; omega
theorem draw_new {l : List Int} {k : Nat} (hl : l.length ≤ 1048576) (hk : l.length < k) : ∃ s, spec_l1New.f k l = some (l, 0, s) := by
  unfold spec_l1New.f
  have h : ∀ (d k i : Nat) (s : Int), i + d = l.length → d < k → ∃ s', spec_l1New.l0 k l s (i : Int) = some (l, 0, s') := by
    intro d
    induction d with
    | zero =>
      intro k i s hi hk
      obtain ⟨k, rfl⟩ := succ_of hk
      simp only [spec_l1New.l0]
      rw [if_neg (by omega)]; exact ⟨_, rfl⟩
    | succ d ih =>
      intro k i s hi hk
      obtain ⟨k, rfl⟩ := succ_of hk
      simp only [spec_l1New.l0]
      rw [if_pos (by omega)]
      by_cases q : (i : Int) < 4000
      · rw [if_pos q, if_pos (by omega), wrap_up (n := l.length) (by omega) (by omega)]
        exact ih k (i + 1) _ (by omega) (by omega)
      · rw [if_neg q]; exact ⟨_, rfl⟩
  exact h l.length k 0 _ (by omega) hk
theorem draw_byte {l : List Int} {i s : Int} (hl : l.length ≤ 1048576) (hi : 0 ≤ i) : ∃ b j t, spec_l1Byte.f l i s = some (b, j, t) ∧ 0 ≤ b ∧ b ≤ 255 ∧ 0 ≤ j := by
  unfold spec_l1Byte.f
  by_cases q : i < (l.length : Int)
  · rw [if_pos q, if_pos hi]
    exact ⟨_, _, _, rfl, (and_byte _).1, (and_byte _).2, by rw [wrap_id (by omega) (by omega)]; omega⟩
  · rw [if_neg q]
    exact ⟨_, _, _, rfl, (and_byte _).1, (and_byte _).2, hi⟩
theorem draw_below {l : List Int} {i s n : Int} (hl : l.length ≤ 1048576) (hi : 0 ≤ i) (h0 : 0 < n) (h1 : n ≤ 256) : ∃ v j t, spec_l1Below.f l i s n = some (v, j, t) ∧ 0 ≤ v ∧ v < n ∧ 0 ≤ j := by
  unfold spec_l1Below.f
  obtain ⟨b, j, t, e, b0, b1, j0⟩ := draw_byte (s := s) hl hi
  rw [if_neg (by omega), if_pos h1, e, Option.bind_some, if_neg (by omega)]
  refine ⟨_, _, _, rfl, Int.tmod_nonneg _ b0, ?_, j0⟩
  exact Int.tmod_lt_of_pos _ h0

/-! ### T_int -/
theorem draw_int {st xs : List Int} {i s : Int} (hl : st.length ≤ 1048576) (hi : 0 ≤ i) (h0 : 0 < xs.length) (h1 : xs.length ≤ 256) : ∃ v j t, spec_l1Int.f st i s xs = some (v, j, t) ∧ v ∈ xs ∧ 0 ≤ j := by
  unfold spec_l1Int.f
  obtain ⟨v, j, t, e, v0, v1, j0⟩ := draw_below (s := s) (n := (xs.length : Int)) hl hi (by omega) (by omega)
  rw [e, Option.bind_some, if_pos v0, if_pos v1]
  obtain ⟨n, rfl⟩ : ∃ n : Nat, v = n := ⟨v.toNat, by omega⟩
  exact ⟨_, _, _, rfl, by rw [rd_cast]; exact nt_mem 0 xs n (by omega), j0⟩

/-! ### T_Move -/
abbrev Mv := S54
abbrev zMv : Mv := z54
theorem rd_Mv (l : List Mv) (i : Nat) : rd_T54 l (i : Int) = nt zMv l i := by simp [rd_T54, nt]
def sameMv (x y : Mv) : Bool := (x.f0 == y.f0) && ((x.f1 == y.f1) && ((x.f2 == y.f2) && (x.f3 == y.f3)))
theorem sameMv_self (x : Mv) : sameMv x x = true := by simp [sameMv]
def eqBs (a b : List Bool) : Bool := decide (a.length = b.length) && allFrom (fun i => nt false a i == nt false b i) 0 a.length
def eqMvs (a b : List Mv) : Bool := decide (a.length = b.length) && allFrom (fun i => sameMv (nt zMv a i) (nt zMv b i)) 0 a.length
theorem rdb_cast (xs : List Bool) (i : Nat) : rdOf false xs (i : Int) = nt false xs i := rdOf_cast false xs i

/-! ### T_MoveOf -/
def keyMv (a : Int) (s : Bool) (m : Int) (x : Mv) : Bool := (x.f0 == a) && ((x.f1 == s) && (x.f2 == m))
def moveOf (l : List Mv) (a : Int) (s : Bool) (m : Int) : Int := (l.findIdx? (keyMv a s m)).elim (-1) fun j => (j : Int)

/-! ### spec_MoveOf -/
theorem spec_MoveOf_eq {n : Int} {e : List Bool} {l : List Mv} {a : Int} {s : Bool} {m : Int} {k : Nat} (hl : l.length ≤ 1048576) (hk : l.length < k) : spec_MoveOf.f k n e l a s m = some (moveOf l a s m) := by
  unfold spec_MoveOf.f
  have h := find_loop (g := fun k i => spec_MoveOf.l0 k a s m (i : Int) n e l) (l := l) (z := zMv) (B := 0) (p := keyMv a s m) (hit := fun i => (i : Int)) (miss := -1) (fun k => by
      simp only [spec_MoveOf.l0]; rw [if_neg (by omega)])
    (fun k i hi _ => by
      simp only [spec_MoveOf.l0]
      rw [if_pos (by omega), if_pos (by omega), rd_Mv, wrap_up (n := l.length) hi (by omega)]
      by_cases h1 : (nt zMv l i).f0 = a
      · rw [if_pos h1]
        cases h2 : ((nt zMv l i).f1 == s) with
        | true =>
          rw [if_pos rfl]
          by_cases h3 : (nt zMv l i).f2 = m
          · rw [if_pos h3, if_pos (by simp [keyMv, h1, h2, h3])]
          · rw [if_neg h3, if_neg (by simp [keyMv, h3])]
        | false => rw [if_neg (by simp), if_neg (by simp [keyMv, h2])]
      · rw [if_neg h1, if_neg (by simp [keyMv, h1])]) l.length k 0 (by omega) (by omega)
  simpa [moveOf] using h

/-! ### spec_l13Draw -/
/-- Every message is small. -/
def smallMs (l : List Mv) : Prop := ∀ x ∈ l, -1 ≤ x.f2 ∧ x.f2 ≤ 6
theorem small_snoc {l : List Mv} {x : Mv} (h : smallMs l) (h0 : -1 ≤ x.f2) (h1 : x.f2 ≤ 6) : smallMs (l ++ [x]) := by
  intro y hy
  rcases List.mem_append.1 hy with hy | hy
  · exact h y hy
  · rw [List.mem_singleton] at hy; rw [hy]; exact ⟨h0, h1⟩
theorem draw_once {st : List Int} {i s n : Int} (hl : st.length ≤ 1048576) (hi : 0 ≤ i) (h0 : 0 < n) (h1 : n ≤ 256) : ∃ v j t, spec_l1Once.f st i s n = some (v, j, t) ∧ 0 ≤ j := by
  unfold spec_l1Once.f
  obtain ⟨v, j, t, e, _, _, j0⟩ := draw_below (s := s) (n := n) hl hi h0 h1
  rw [e, Option.bind_some]
  exact ⟨_, _, _, rfl, j0⟩
def GoodM (n : Int) (e : List Bool) (l : List Mv) : Prop := 1 ≤ n ∧ n ≤ 4 ∧ e.length ≤ 4 ∧ l.length ≤ 12 ∧ smallMs l
theorem draw_l13_l1 {st : List Int} (hs : st.length ≤ 1048576) {n : Int} (hn : 1 ≤ n ∧ n ≤ 4) {x : Nat} (hx : (x : Int) < n) {b : Bool} {c : Nat} (hc : c ≤ 3)
    (ih : ∀ (k : Nat) (e : List Bool) (l : List Mv) (i s : Int), 0 ≤ i → e.length = x + 1 → l.length ≤ 3 * (x + 1) → smallMs l → 200 * (4 - (x + 1)) + 100 < k → ∃ e' l' j t, spec_l13Draw.l0 k ((x + 1 : Nat) : Int) st i s n e l = some (n, e', l', j, t) ∧ GoodM n e' l' ∧ 0 ≤ j) :
    ∀ (d y k : Nat) (e : List Bool) (l : List Mv) (i s : Int), y + d = c → 0 ≤ i → e.length = x → l.length ≤ 3 * x + y → smallMs l → 200 * (4 - (x + 1)) + 120 + d < k → ∃ e' l' j t, spec_l13Draw.l1 k (x : Int) b (c : Int) (y : Int) st i s n e l = some (n, e', l', j, t) ∧ GoodM n e' l' ∧ 0 ≤ j := by
  intro d
  induction d with
  | zero =>
    intro y k e l i s hy hi he hl hm hk
    obtain ⟨k, rfl⟩ := succ_of hk
    simp only [spec_l13Draw.l1]
    rw [if_neg (by omega), wrap_id (x := (x : Int) + 1) (by omega) (by omega), show (x : Int) + 1 = ((x + 1 : Nat) : Int) by omega]
    by_cases q : (c : Int) = 0
    · rw [if_pos q, if_pos (by omega)]
      exact ih k _ l i s hi (by rw [List.length_append, List.length_singleton]; omega) (by omega) hm (by omega)
    · rw [if_neg q]
      obtain ⟨v, j, t, e1, j0⟩ := draw_once (s := s) (n := 4) hs hi (by omega) (by omega)
      rw [e1, Option.bind_some, if_pos (by omega)]
      exact ih k _ l j t j0 (by rw [List.length_append, List.length_singleton]; omega) (by omega) hm (by omega)
  | succ d ihd =>
    intro y k e l i s hy hi he hl hm hk
    obtain ⟨k, rfl⟩ := succ_of hk
    simp only [spec_l13Draw.l1]
    obtain ⟨v, j, t, e1, v0, v1, j0⟩ := draw_below (s := s) (n := 3) hs hi (by omega) (by omega)
    obtain ⟨w, j2, t2, e2, w0, w1, j1⟩ := draw_below (s := t) (n := n) hs j0 (by omega) (by omega)
    rw [if_pos (by omega), e1, Option.bind_some]
    dsimp only
    rw [e2, Option.bind_some]
    dsimp only
    rw [spec_MoveOf_eq (by omega) (by omega), Option.bind_some, wrap_id (x := (y : Int) + 1) (by omega) (by omega), show (y : Int) + 1 = ((y + 1 : Nat) : Int) by omega]
    by_cases q : moveOf l (x : Int) b v < 0
    · rw [if_pos q, if_pos (by omega)]
      exact ihd (y + 1) k e _ j2 t2 (by omega) j1 he (by rw [List.length_append, List.length_singleton]; omega) (small_snoc hm (by dsimp only; omega) (by dsimp only; omega)) (by omega)
    · rw [if_neg q]
      exact ihd (y + 1) k e l j2 t2 (by omega) j1 he (by omega) hm (by omega)
theorem draw_l13_l0 {st : List Int} (hs : st.length ≤ 1048576) {n : Int} (hn : 1 ≤ n ∧ n ≤ 4) : ∀ (d x k : Nat) (e : List Bool) (l : List Mv) (i s : Int), x + d = 4 → (x : Int) ≤ n → 0 ≤ i → e.length = x → l.length ≤ 3 * x → smallMs l → 200 * d + 100 < k → ∃ e' l' j t, spec_l13Draw.l0 k (x : Int) st i s n e l = some (n, e', l', j, t) ∧ GoodM n e' l' ∧ 0 ≤ j := by
  intro d
  induction d with
  | zero =>
    intro x k e l i s hd hx hi he hl hm hk
    obtain ⟨k, rfl⟩ := succ_of hk
    simp only [spec_l13Draw.l0]
    rw [if_neg (by omega)]
    exact ⟨_, _, _, _, rfl, ⟨hn.1, hn.2, by omega, by omega, hm⟩, hi⟩
  | succ d ih =>
    intro x k e l i s hd hx hi he hl hm hk
    obtain ⟨k, rfl⟩ := succ_of hk
    simp only [spec_l13Draw.l0]
    by_cases q : (x : Int) < n
    · rw [if_pos q]
      obtain ⟨b, j, t, e1, j0⟩ := draw_once (s := s) (n := 2) hs hi (by omega) (by omega)
      obtain ⟨v, j2, t2, e2, v0, v1, j1⟩ := draw_below (s := t) (n := 3) hs j0 (by omega) (by omega)
      rw [e1, Option.bind_some]
      dsimp only
      rw [e2, Option.bind_some]
      dsimp only
      have key : ∀ (c : Nat) (k : Nat) (i s : Int), c ≤ 3 → 0 ≤ i → 200 * d + 290 < k → ∃ e' l' j t, spec_l13Draw.j1 k (x : Int) b (c : Int) st i s n e l = some (n, e', l', j, t) ∧ GoodM n e' l' ∧ 0 ≤ j := by
        intro c k i s hc hi hk
        obtain ⟨k, rfl⟩ := succ_of hk
        simp only [spec_l13Draw.j1]
        exact draw_l13_l1 hs hn q hc (fun k e l i s hi he hl hm hk => ih (x + 1) k e l i s (by omega) (by omega) hi he hl hm (by omega)) c 0 k e l i s (by omega) hi he (by omega) hm (by omega)
      by_cases q0 : (x : Int) = 0
      · rw [if_pos q0]
        obtain ⟨w, j3, t3, e3, w0, w1, j4⟩ := draw_below (s := t2) (n := 2) hs j1 (by omega) (by omega)
        rw [e3, Option.bind_some]
        dsimp only
        obtain ⟨c, rfl⟩ : ∃ c : Nat, w = c := ⟨w.toNat, by omega⟩
        rw [wrap_id (by omega) (by omega), show (1 : Int) + c = ((1 + c : Nat) : Int) by omega]
        exact key (1 + c) k j3 t3 (by omega) j4 (by omega)
      · rw [if_neg q0]
        obtain ⟨c, rfl⟩ : ∃ c : Nat, v = c := ⟨v.toNat, by omega⟩
        exact key c k j2 t2 (by omega) j1 (by omega)
    · rw [if_neg q]
      exact ⟨_, _, _, _, rfl, ⟨hn.1, hn.2, by omega, by omega, hm⟩, hi⟩
theorem draw_l13 {st : List Int} {k : Nat} {i s : Int} (hs : st.length ≤ 1048576) (hi : 0 ≤ i) (hk : 1000 < k) : ∃ n e l j t, spec_l13Draw.f k st i s = some (n, e, l, j, t) ∧ GoodM n e l ∧ 0 ≤ j := by
  unfold spec_l13Draw.f
  obtain ⟨v, j, t, e1, v0, v1, j0⟩ := draw_below (s := s) (n := 4) hs hi (by omega) (by omega)
  rw [e1, Option.bind_some]
  dsimp only
  rw [wrap_id (by omega) (by omega)]
  obtain ⟨e', l', j2, t2, h1, h2, h3⟩ := draw_l13_l0 hs (n := 1 + v) (by omega) 4 0 k [] [] j t (by omega) (by omega) j0 rfl (by simp) (fun x hx => by simp at hx) (by omega)
  exact ⟨_, _, _, _, _, h1, h2, h3⟩

/-! ### spec_l13Any -/
theorem small_set {l : List Mv} {i : Nat} {y : Mv} (h : smallMs l) (h0 : -1 ≤ y.f2) (h1 : y.f2 ≤ 6) : smallMs (l.set i y) := by
  intro x hx
  rcases List.mem_or_eq_of_mem_set hx with q | q
  · exact h x q
  · rw [q]; exact ⟨h0, h1⟩
theorem draw_l13any {st : List Int} {k : Nat} {i s : Int} (hs : st.length ≤ 1048576) (hi : 0 ≤ i) (hk : 1000 < k) : ∃ n e l j t, spec_l13Any.f k st i s = some (n, e, l, j, t) ∧ e.length ≤ 5 ∧ l.length ≤ 13 ∧ smallMs l ∧ 0 ≤ j := by
  unfold spec_l13Any.f
  obtain ⟨n, e, l, j, t, e1, ⟨n0, n1, he, hl, hm⟩, j0⟩ := draw_l13 (s := s) hs hi hk
  rw [e1, Option.bind_some]
  dsimp only
  by_cases q : (l.length : Int) = 0
  · rw [if_pos q]; exact ⟨_, _, _, _, _, rfl, by omega, by omega, hm, j0⟩
  · rw [if_neg q]
    obtain ⟨v, j2, t2, e2, v0, v1, j1⟩ := draw_below (s := t) (n := (l.length : Int)) hs j0 (by omega) (by omega)
    rw [e2, Option.bind_some]
    dsimp only
    obtain ⟨w, j3, t3, e3, w0, w1, j4⟩ := draw_below (s := t2) (n := 12) hs j1 (by omega) (by omega)
    rw [e3, Option.bind_some]
    dsimp only
    obtain ⟨c, rfl⟩ : ∃ c : Nat, v = c := ⟨v.toNat, by omega⟩
    have hx := hm _ (nt_mem zMv l c (by omega))
    rw [rd_Mv, toNat_cast]
    by_cases q0 : w = 0
    · rw [if_pos q0]
      obtain ⟨v5, j5, t5, e5, _, j6⟩ := draw_int (s := t3) (xs := [-1, n, 9223372036854775807]) hs j4 (by simp) (by simp)
      rw [e5, Option.bind_some, if_pos v0, if_pos v1]
      exact ⟨_, _, _, _, _, rfl, by omega, by rw [List.length_set]; omega, small_set hm hx.1 hx.2, j6⟩
    · rw [if_neg q0]
      by_cases q1 : w = 1
      · rw [if_pos q1]
        obtain ⟨v5, j5, t5, e5, h5, j6⟩ := draw_int (s := t3) (xs := [-1, 5, 6]) hs j4 (by simp) (by simp)
        rw [e5, Option.bind_some, if_pos v0, if_pos v1]
        have h6 : -1 ≤ v5 ∧ v5 ≤ 6 := by
          simp only [List.mem_cons, List.not_mem_nil, or_false] at h5
          omega
        exact ⟨_, _, _, _, _, rfl, by omega, by rw [List.length_set]; omega, small_set hm h6.1 h6.2, j6⟩
      · rw [if_neg q1]
        by_cases q2 : w = 2
        · rw [if_pos q2, if_pos v0, if_pos v1, if_pos (by omega)]
          exact ⟨_, _, _, _, _, rfl, by omega, by rw [List.length_append, List.length_singleton]; omega, small_snoc hm hx.1 hx.2, j4⟩
        · rw [if_neg q2]
          by_cases q3 : w = 3
          · rw [if_pos q3, if_pos v0, if_pos v1, if_pos (by omega)]
            exact ⟨_, _, _, _, _, rfl, by omega, by rw [List.length_append, List.length_singleton]; omega, small_snoc hm hx.1 hx.2, j4⟩
          · rw [if_neg q3]
            by_cases q4 : w = 4
            · rw [if_pos q4]
              obtain ⟨v5, j5, t5, e5, _, j6⟩ := draw_int (s := t3) (xs := [0, 6, 7]) hs j4 (by simp) (by simp)
              rw [e5, Option.bind_some]
              exact ⟨_, _, _, _, _, rfl, by omega, by omega, hm, j6⟩
            · rw [if_neg q4]
              by_cases q5 : w = 5
              · rw [if_pos q5, if_pos (by omega)]
                exact ⟨_, _, _, _, _, rfl, by rw [List.length_append, List.length_singleton]; omega, by omega, hm, j4⟩
              · rw [if_neg q5]
                exact ⟨_, _, _, _, _, rfl, by omega, by omega, hm, j4⟩

/-! ### spec_DrawRunMachine -/
def IntW (w : List Int) : Prop := ∀ v ∈ w, -9223372036854775808 ≤ v ∧ v ≤ 9223372036854775807
theorem intW_snoc {w : List Int} {v : Int} (h : IntW w) (h0 : -9223372036854775808 ≤ v ∧ v ≤ 9223372036854775807) : IntW (w ++ [v]) := by
  intro y hy
  rcases List.mem_append.1 hy with hy | hy
  · exact h y hy
  · rw [List.mem_singleton] at hy; rw [hy]; exact h0
theorem wrap_range (x : Int) : -9223372036854775808 ≤ wrap64 x ∧ wrap64 x ≤ 9223372036854775807 := by unfold wrap64; omega
theorem draw_run_l1 {st : List Int} (hs : st.length ≤ 1048576) {n : Int} {e : List Bool} {l : List Mv} (hl : l.length ≤ 13) (hm : smallMs l) {d : Nat} (hd : d ≤ 6)
    (ih : ∀ (k : Nat) (w : List Int) (x i s : Int), 0 ≤ i → w.length + d ≤ 6 → IntW w → 100 * d + 100 < k → ∃ w', spec_DrawRunMachine.l0 k w x (d : Int) st i s n e l = some (n, e, l, w') ∧ w'.length ≤ 7 ∧ IntW w') :
    ∀ (c y k : Nat) (w : List Int) (x z i s : Int), y + c = l.length → 0 ≤ i → w.length + (d + 1) ≤ 6 → IntW w → -3 ≤ z → z ≤ 3 → 100 * d + 110 + 3 * c < k → ∃ w', spec_DrawRunMachine.l1 k w x ((d + 1 : Nat) : Int) z (y : Int) st i s n e l = some (n, e, l, w') ∧ w'.length ≤ 7 ∧ IntW w' := by
  have wd : wrap64 (((d + 1 : Nat) : Int) - 1) = (d : Int) := by rw [wrap_id (by omega) (by omega)]; omega
  intro c
  induction c with
  | zero =>
    intro y k w x z i s hy hi hw hW z0 z1 hk
    obtain ⟨k, rfl⟩ := succ_of hk
    obtain ⟨k, rfl⟩ := succ_of (show 0 < k by omega)
    simp only [spec_DrawRunMachine.l1]
    rw [if_neg (by omega)]
    simp only [spec_DrawRunMachine.j2, Bool.false_eq_true, if_false]
    rw [if_pos (by omega), wd]
    exact ih k _ x i s hi (by rw [List.length_append, List.length_singleton]; omega) (intW_snoc hW (by omega)) (by omega)
  | succ c ihc =>
    intro y k w x z i s hy hi hw hW z0 z1 hk
    obtain ⟨k, rfl⟩ := succ_of hk
    obtain ⟨k, rfl⟩ := succ_of (show 0 < k by omega)
    simp only [spec_DrawRunMachine.l1]
    obtain ⟨b, j, t, e1, j0⟩ := draw_once (s := s) (n := 2) hs hi (by omega) (by omega)
    rw [if_pos (by omega), e1, Option.bind_some]
    dsimp only
    cases b with
    | false =>
      simp only [spec_DrawRunMachine.j2, Bool.false_eq_true, if_false]
      rw [if_pos (by omega), wd]
      exact ih k _ x j t j0 (by rw [List.length_append, List.length_singleton]; omega) (intW_snoc hW (by omega)) (by omega)
    | true =>
      have hx := hm _ (nt_mem zMv l y (by omega))
      simp only [spec_DrawRunMachine.j2, if_true]
      rw [if_pos (by omega), if_pos (by omega), rd_Mv, wrap_up (n := l.length) (by omega) (by omega), wd]
      by_cases q : (nt zMv l y).f0 = x
      · rw [if_pos q]
        by_cases q1 : (nt zMv l y).f1 = true
        · rw [if_pos q1, if_pos (by omega)]
          exact ih k _ _ j t j0 (by rw [List.length_append, List.length_singleton]; omega) (intW_snoc hW (by omega)) (by omega)
        · rw [if_neg q1, if_pos (by omega)]
          exact ih k _ _ j t j0 (by rw [List.length_append, List.length_singleton]; omega) (intW_snoc hW (wrap_range _)) (by omega)
      · rw [if_neg q]
        exact ihc (y + 1) k w x z j t (by omega) j0 hw hW z0 z1 (by omega)
theorem draw_run_l0 {st : List Int} (hs : st.length ≤ 1048576) {n : Int} {e : List Bool} {l : List Mv} (hl : l.length ≤ 13) (hm : smallMs l) : ∀ (d : Nat), d ≤ 6 → ∀ (k : Nat) (w : List Int) (x i s : Int), 0 ≤ i → w.length + d ≤ 6 → IntW w → 100 * d + 100 < k → ∃ w', spec_DrawRunMachine.l0 k w x (d : Int) st i s n e l = some (n, e, l, w') ∧ w'.length ≤ 7 ∧ IntW w' := by
  intro d
  induction d with
  | zero =>
    intro hd k w x i s hi hw hW hk
    obtain ⟨k, rfl⟩ := succ_of hk
    simp only [spec_DrawRunMachine.l0]
    obtain ⟨b, j, t, e1, j0⟩ := draw_once (s := s) (n := 12) hs hi (by omega) (by omega)
    rw [if_neg (by omega), e1, Option.bind_some]
    dsimp only
    cases b with
    | false => rw [if_neg (by simp)]; exact ⟨_, rfl, by omega, hW⟩
    | true =>
      obtain ⟨v5, j5, t5, e5, h5, j6⟩ := draw_int (s := t) (xs := [9223372036854775807, -9223372036854775808]) hs j0 (by simp) (by simp)
      rw [if_pos rfl, e5, Option.bind_some, if_pos (by omega)]
      refine ⟨_, rfl, by rw [List.length_append, List.length_singleton]; omega, intW_snoc hW ?_⟩
      simp only [List.mem_cons, List.not_mem_nil, or_false] at h5
      dsimp only
      omega
  | succ d ihd =>
    intro hd k w x i s hi hw hW hk
    obtain ⟨k, rfl⟩ := succ_of hk
    simp only [spec_DrawRunMachine.l0]
    obtain ⟨v, j, t, e1, v0, v1, j0⟩ := draw_below (s := s) (n := 7) hs hi (by omega) (by omega)
    rw [if_pos (by omega), e1, Option.bind_some]
    dsimp only
    rw [wrap_id (x := v - 3) (by omega) (by omega)]
    exact draw_run_l1 hs hl hm (by omega) (ihd (by omega)) l.length 0 k w x (v - 3) j t (by omega) j0 hw hW (by omega) (by omega) (by omega)
theorem draw_run {st : List Int} {k : Nat} (hs : st.length ≤ 1048576) (hk : 1048576 + 2000 < k) : ∃ n e l w, spec_DrawRunMachine.f k st = some (n, e, l, w) ∧ e.length ≤ 5 ∧ l.length ≤ 13 ∧ w.length ≤ 7 ∧ IntW w := by
  unfold spec_DrawRunMachine.f
  obtain ⟨s, e1⟩ := draw_new (k := k) hs (by omega)
  obtain ⟨n, e, l, j, t, e2, he, hl, hm, j0⟩ := draw_l13any (k := k) (s := s) hs (Int.le_refl 0) (by omega)
  obtain ⟨v, j2, t2, e3, v0, v1, j1⟩ := draw_below (s := t) (n := 6) hs j0 (by omega) (by omega)
  simp only [e1, Option.bind_some, e2, e3]
  obtain ⟨d, rfl⟩ : ∃ d : Nat, v = d := ⟨v.toNat, by omega⟩
  obtain ⟨w', h1, h2, h3⟩ := draw_run_l0 hs (n := n) (e := e) hl hm d (by omega) k [] 0 j2 t2 j1 (by simp; omega) (fun x hx => by simp at hx) (by omega)
  exact ⟨_, _, _, _, h1, he, hl, h2, h3⟩
theorem draw_mf {st : List Int} {k : Nat} (hs : st.length ≤ 1048576) (hk : 1048576 + 2000 < k) : ∃ n e l x b, spec_DrawMovesFrom.f k st = some (n, e, l, x, b) ∧ l.length ≤ 13 := by
  unfold spec_DrawMovesFrom.f
  obtain ⟨s, e1⟩ := draw_new (k := k) hs (by omega)
  obtain ⟨n, e, l, j, t, e2, he, hl, hm, j0⟩ := draw_l13any (k := k) (s := s) hs (Int.le_refl 0) (by omega)
  obtain ⟨v, j2, t2, e3, v0, v1, j1⟩ := draw_below (s := t) (n := 5) hs j0 (by omega) (by omega)
  obtain ⟨b, j3, t3, e4, j4⟩ := draw_once (s := t2) (n := 2) hs j1 (by omega) (by omega)
  simp only [e1, Option.bind_some, e2, e3, e4]
  exact ⟨_, _, _, _, _, rfl, hl⟩

/-! ### T_dual -/
def flipMv (x : Mv) : Mv := ⟨x.f0, !x.f1, x.f2, x.f3⟩

/-! ### impl_MoveOf -/
theorem impl_MoveOf_eq (n : Int) (e : List Bool) (l : List Mv) (a : Int) (s : Bool) (m : Int) : impl_MoveOf.f n e l a s m = some (moveOf l a s m) := rfl

/-! ### T_inB -/
def inB (x a b : Int) : Bool := decide (a ≤ x) && decide (x ≤ b)
theorem inB_dec (x a b : Int) : decide (a ≤ x ∧ x ≤ b) = inB x a b := by simp [inB]

/-! ### T_mf -/
def fromMv (a : Int) (s : Bool) (x : Mv) : Bool := (x.f0 == a) && (x.f1 == s)
def movesFrom (l : List Mv) (a : Int) (s : Bool) : List Int := l.foldl (fun acc x => if fromMv a s x = true then putI acc x.f2 else acc) []
theorem movesFrom_nonempty (a : Int) (s : Bool) : ∀ (l : List Mv) (acc : List Int), (0 < (l.foldl (fun acc x => if fromMv a s x = true then putI acc x.f2 else acc) acc).length) ↔ (0 < acc.length ∨ l.any (fromMv a s) = true)
  | [], acc => by simp
  | x :: r, acc => by
    rw [List.foldl_cons, movesFrom_nonempty a s r, List.any_cons]
    have := putI_length acc x.f2
    by_cases h : fromMv a s x = true
    · rw [if_pos h, h]; simp; omega
    · rw [if_neg h]; simp [h]

/-! ### T_IsMachine -/
def okMv (n : Int) (x : Mv) : Bool := inB x.f0 0 (n - 1) && (inB x.f3 0 (n - 1) && inB x.f2 0 5)
/-- Two moves that may not stand together. -/
def clashMv (x y : Mv) : Bool := (x.f0 == y.f0) && (!(x.f1 == y.f1) || (x.f2 == y.f2))
def isMachine (n : Int) (e : List Bool) (l : List Mv) : Bool := inB n 1 6 && (decide ((e.length : Int) = n) && (decide (l.length ≤ 12) &&
  allFrom (fun i => okMv n (nt zMv l i) && allFrom (fun j => !clashMv (nt zMv l j) (nt zMv l i)) 0 i) 0 l.length))
theorem moveOf_lt {l : List Mv} {i : Nat} (hi : i < l.length) : moveOf l (nt zMv l i).f0 (nt zMv l i).f1 (nt zMv l i).f2 < (i : Int) ↔ ∃ j, j < i ∧ keyMv (nt zMv l i).f0 (nt zMv l i).f1 (nt zMv l i).f2 (nt zMv l j) = true := by
  unfold moveOf
  have hs : keyMv (nt zMv l i).f0 (nt zMv l i).f1 (nt zMv l i).f2 (nt zMv l i) = true := by simp [keyMv]
  cases e : l.findIdx? (keyMv (nt zMv l i).f0 (nt zMv l i).f1 (nt zMv l i).f2) with
  | none =>
    rw [List.findIdx?_eq_none_iff] at e
    have := e _ (nt_mem zMv l i hi)
    rw [hs] at this; cases this
  | some j =>
    obtain ⟨h1, h2, h3⟩ := List.findIdx?_eq_some_iff_getElem.1 e
    simp only [Option.elim]
    constructor
    · intro h; exact ⟨j, by omega, by rw [nt_lt _ _ _ h1]; exact h2⟩
    · rintro ⟨j', hj, hq⟩
      by_cases h : j < i
      · omega
      · have h4 := h3 j' (by omega)
        rw [nt_lt l zMv j' (by omega)] at hq
        rw [hq] at h4; exact absurd rfl h4
theorem good_iff (n : Int) (l : List Mv) :
    allFrom (fun i => okMv n (nt zMv l i) && (!decide (moveOf l (nt zMv l i).f0 (nt zMv l i).f1 (nt zMv l i).f2 < (i : Int)) && !decide (((movesFrom l (nt zMv l i).f0 (!(nt zMv l i).f1)).length : Int) > 0))) 0 l.length
    = allFrom (fun i => okMv n (nt zMv l i) && allFrom (fun j => !clashMv (nt zMv l j) (nt zMv l i)) 0 i) 0 l.length := by
  rw [Bool.eq_iff_iff, allFrom_iff, allFrom_iff]
  have hm : ∀ i, ((movesFrom l (nt zMv l i).f0 (!(nt zMv l i).f1)).length : Int) > 0 ↔ ∃ j, j < l.length ∧ fromMv (nt zMv l i).f0 (!(nt zMv l i).f1) (nt zMv l j) = true := by
    intro i
    have h := movesFrom_nonempty (nt zMv l i).f0 (!(nt zMv l i).f1) l []
    simp only [List.length_nil, Nat.lt_irrefl, false_or, List.any_eq_true] at h
    constructor
    · intro hp
      obtain ⟨x, hx, hq⟩ := h.1 (by unfold movesFrom at hp; omega)
      obtain ⟨j, hj, rfl⟩ := List.mem_iff_getElem.1 hx
      exact ⟨j, hj, by rw [nt_lt _ _ _ hj]; exact hq⟩
    · rintro ⟨j, hj, hq⟩
      have := h.2 ⟨_, nt_mem zMv l j hj, hq⟩
      unfold movesFrom; omega
  constructor
  · intro h i h0 hi
    have q := h i h0 hi
    simp only [Bool.and_eq_true, Bool.not_eq_true', decide_eq_false_iff_not] at q ⊢
    refine ⟨q.1, (allFrom_iff _ _ _).2 fun j _ hj => ?_⟩
    simp only [Bool.not_eq_true']
    cases hc : clashMv (nt zMv l j) (nt zMv l i) with
    | false => rfl
    | true =>
      exfalso
      simp only [clashMv, Bool.and_eq_true, Bool.or_eq_true, beq_iff_eq, Bool.not_eq_true', beq_eq_false_iff_ne] at hc
      by_cases hs : (nt zMv l j).f1 = (nt zMv l i).f1
      · rcases hc.2 with h2 | h2
        · exact h2 hs
        · exact q.2.1 ((moveOf_lt (by omega)).2 ⟨j, by omega, by rw [keyMv, hc.1, hs, h2]; simp⟩)
      · exact q.2.2 ((hm i).2 ⟨j, by omega, by
          simp only [fromMv, hc.1, beq_self_eq_true, Bool.true_and]
          cases hA : (nt zMv l j).f1 <;> cases hB : (nt zMv l i).f1 <;> simp_all⟩)
  · intro h i h0 hi
    have q := h i h0 hi
    simp only [Bool.and_eq_true, Bool.not_eq_true', decide_eq_false_iff_not] at q ⊢
    have q2 := (allFrom_iff _ _ _).1 q.2
    refine ⟨q.1, fun hlt => ?_, fun hp => ?_⟩
    · obtain ⟨j, hj, hk⟩ := (moveOf_lt (by omega)).1 hlt
      have := q2 j (by omega) (by omega)
      simp only [keyMv, Bool.and_eq_true, beq_iff_eq] at hk
      simp [clashMv, hk.1, hk.2.2] at this
    · obtain ⟨j, hj, hf⟩ := (hm i).1 hp
      simp only [fromMv, Bool.and_eq_true, beq_iff_eq] at hf
      rcases Nat.lt_trichotomy j i with hji | hji | hji
      · have := q2 j (by omega) (by omega)
        simp [clashMv, hf.1, hf.2] at this
      · subst hji; exact absurd hf.2 (by cases (nt zMv l j).f1 <;> simp)
      · have r := h j (by omega) (by omega)
        simp only [Bool.and_eq_true] at r
        have := (allFrom_iff _ _ _).1 r.2 i (by omega) (by omega)
        simp [clashMv, hf.1, hf.2] at this

/-! ### T_RunMachine -/
theorem moveOf_bound (l : List Mv) (a : Int) (s : Bool) (m : Int) : moveOf l a s m < 0 ∨ ∃ j : Nat, moveOf l a s m = j ∧ j < l.length ∧ keyMv a s m (nt zMv l j) = true := by
  rcases idx_elim_nonneg (keyMv a s m) l zMv with ⟨h, _⟩ | ⟨j, h1, h2, h3, _⟩
  · exact .inl h
  · exact .inr ⟨j, h1, h2, h3⟩
/-- The message of a word's number. -/
def msgOf (n : Int) : Int := if n < 0 then -(n + 1) else n
/-- A word run from state s on. -/
def runFrom (l : List Mv) : Int → List Int → Int
  | s, [] => s
  | s, n :: w => if moveOf l s (decide (n ≥ 0)) (msgOf n) < 0 then -1 else runFrom l (nt zMv l (moveOf l s (decide (n ≥ 0)) (msgOf n)).toNat).f3 w
def runMachine (n : Int) (e : List Bool) (l : List Mv) (w : List Int) : Int := if isMachine n e l && decide (w.length ≤ 20) then runFrom l 0 w else -1
theorem msg_spec {n : Int} (h : -9223372036854775808 ≤ n ∧ n ≤ 9223372036854775807) (hn : n < 0) : wrap64 (-(wrap64 (n + 1))) = msgOf n := by
  unfold msgOf; rw [if_pos hn, wrap_id (x := n + 1) (by omega) (by omega), wrap_id (by omega) (by omega)]
theorem msg_impl {n : Int} (h : -9223372036854775808 ≤ n ∧ n ≤ 9223372036854775807) (hn : n < 0) : wrap64 (wrap64 (-n) - 1) = msgOf n := by
  unfold msgOf; rw [if_pos hn]
  unfold wrap64; omega

/-! ### T_dualM -/
theorem key_flip (a : Int) (s : Bool) (m : Int) (x : Mv) : keyMv a (!s) m (flipMv x) = keyMv a s m x := by
  unfold keyMv flipMv
  cases s <;> cases x.f1 <;> rfl
theorem moveOf_flip (l : List Mv) (a : Int) (s : Bool) (m : Int) : moveOf (l.map flipMv) a (!s) m = moveOf l a s m := by
  unfold moveOf
  rw [List.findIdx?_map, show (keyMv a (!s) m ∘ flipMv) = keyMv a s m from funext fun x => key_flip a s m x]
theorem nt_flip {l : List Mv} {i : Nat} (h : i < l.length) : nt zMv (l.map flipMv) i = flipMv (nt zMv l i) := by
  rw [nt_lt _ _ _ (by rw [List.length_map]; exact h), nt_lt _ _ _ h, List.getElem_map]
theorem clash_flip (x y : Mv) : clashMv (flipMv x) (flipMv y) = clashMv x y := by
  unfold clashMv flipMv
  cases x.f1 <;> cases y.f1 <;> rfl
theorem isMachine_flip (n : Int) (e : List Bool) (l : List Mv) : isMachine n e (l.map flipMv) = isMachine n e l := by
  unfold isMachine
  rw [List.length_map]
  congr 3
  refine allFrom_congr _ _ fun i _ hi => ?_
  rw [nt_flip (by omega)]
  congr 1
  refine allFrom_congr _ _ fun j _ hj => ?_
  rw [nt_flip (by omega), clash_flip]
def negW (w : List Int) : List Int := w.map fun v => -(v + 1)
theorem msg_neg (n : Int) : msgOf (-(n + 1)) = msgOf n := by
  unfold msgOf
  split <;> split <;> omega
theorem run_flip (l : List Mv) : ∀ (w : List Int) (s : Int), runFrom (l.map flipMv) s (negW w) = runFrom l s w
  | [], _ => rfl
  | n :: w, s => by
    have ih := run_flip l w
    have e : decide (-(n + 1) ≥ 0) = !decide (n ≥ 0) := by
      by_cases q : n ≥ 0
      · rw [decide_eq_true q, decide_eq_false (by omega)]; rfl
      · rw [decide_eq_false q, decide_eq_true (by omega)]; rfl
    unfold negW at ih ⊢
    simp only [List.map_cons, runFrom]
    rw [e, msg_neg, moveOf_flip]
    by_cases q : moveOf l s (decide (n ≥ 0)) (msgOf n) < 0
    · rw [if_pos q, if_pos q]
    · rw [if_neg q, if_neg q]
      rcases moveOf_bound l s (decide (n ≥ 0)) (msgOf n) with h | ⟨j, hj, hl, _⟩
      · exact absurd h q
      · rw [hj, toNat_cast, nt_flip hl]
        exact ih _
theorem runMachine_flip (n : Int) (e : List Bool) (l : List Mv) (w : List Int) : runMachine n e (l.map flipMv) (negW w) = runMachine n e l w := by
  unfold runMachine
  rw [isMachine_flip, run_flip, show (negW w).length = w.length from List.length_map ..]
theorem flipMv_two (l : List Mv) : (l.map flipMv).map flipMv = l := by
  rw [List.map_map]
  have : (flipMv ∘ flipMv) = id := funext fun x => by cases x; simp [flipMv]
  rw [this, List.map_id]

/-! ### impl_DualOf -/
theorem impl_DualOf_l0 {n : Int} {e : List Bool} : ∀ (rest done : List Mv) (k : Nat), done.length + rest.length ≤ 1048576 → rest.length < k → impl_DualOf.l0 k ((done.length + rest.length : Nat) : Int) (done.length : Int) n e (done ++ rest) = some (n, e, done ++ rest.map flipMv) := by
  intro rest
  induction rest with
  | nil =>
    intro done k hl hk
    obtain ⟨k, rfl⟩ := succ_of hk
    simp only [impl_DualOf.l0, List.length_nil, Nat.add_zero]
    rw [if_neg (by omega)]; simp
  | cons x r ih =>
    intro done k hl hk
    obtain ⟨k, rfl⟩ := succ_of hk
    simp only [List.length_cons] at hl hk ⊢
    simp only [impl_DualOf.l0]
    rw [if_pos (by omega), if_pos (by omega), if_pos (by rw [len_at]; omega), toNat_cast, rd_Mv, nt_at, set_at, wrap_up (n := done.length + 1) (by omega) (by omega)]
    have h := ih (done ++ [flipMv x]) k (by rw [len_snoc]; omega) (by omega)
    rw [len_snoc, show done.length + 1 + r.length = done.length + (r.length + 1) by omega] at h
    rw [show (⟨x.f0, !x.f1, x.f2, x.f3⟩ : Mv) = flipMv x from rfl, h, List.append_assoc, List.map_cons]; rfl
theorem impl_DualOf_eq {n : Int} {e : List Bool} {l : List Mv} {k : Nat} (he : e.length ≤ 1048576) (hl : l.length ≤ 1048576) (hk : l.length < k) : impl_DualOf.f k n e l = some (n, e, l.map flipMv) := by
  unfold impl_DualOf.f
  have h := impl_DualOf_l0 (n := n) (e := e) l [] k (by simp; omega) hk
  simp only [List.nil_append, List.length_nil, Nat.zero_add] at h
  simp only [Option.bind_some, List.nil_append, List.length_nil, Nat.zero_add]
  rw [if_pos (by omega), if_pos (by omega)]
  exact h

/-! ### T_EqualMachines -/
def eqMach (a : Int) (e : List Bool) (m : List Mv) (b : Int) (f : List Bool) (n : List Mv) : Bool := decide (a = b) && (eqBs e f && eqMvs m n)

/-! ### impl_EqualMachines2 -/
theorem slices_Equal_bool_bool_eq {e f : List Bool} {k : Nat} (he : e.length ≤ 1048576) (hk : 1048576 < k) : slices_Equal_bool_bool.f k e f = some (eqBs e f) := by
  unfold slices_Equal_bool_bool.f eqBs
  by_cases h : e.length = f.length
  · rw [if_pos (by omega)]
    have q := all_loop (g := fun k i => slices_Equal_bool_bool.l0 k e f (e.length : Int) (i : Int)) (n := e.length) (B := 0) (ok := fun i => nt false e i == nt false f i) (fin := true) (fun k => by
      simp only [slices_Equal_bool_bool.l0]; rw [if_neg (by omega)])
     (fun k i hi _ => by
      simp only [slices_Equal_bool_bool.l0]
      rw [if_pos (by omega), if_pos (by omega), if_pos (by omega), if_pos (by omega), rdb_cast, rdb_cast, wrap_up (n := e.length) hi (by omega)]
      cases nt false e i <;> cases nt false f i <;> rfl) e.length k 0 (by omega) (by omega)
    simpa [h] using q
  · rw [if_neg (by omega)]; simp [h]
theorem impl_Move_eq {m n : List Mv} {k : Nat} (he : m.length ≤ 1048576) (hk : 1048576 < k) : impl_Move_42.f k m n = some (eqMvs m n) := by
  unfold impl_Move_42.f eqMvs
  by_cases h : m.length = n.length
  · rw [if_pos (by omega)]
    have q := all_loop (g := fun k i => impl_Move_42.l0 k m n (m.length : Int) (i : Int)) (n := m.length) (B := 0) (ok := fun i => sameMv (nt zMv m i) (nt zMv n i)) (fin := true) (fun k => by
      simp only [impl_Move_42.l0]; rw [if_neg (by omega)])
     (fun k i hi _ => by
      simp only [impl_Move_42.l0]
      rw [if_pos (by omega), if_pos (by omega), if_pos (by omega), if_pos (by omega), rd_Mv, rd_Mv, wrap_up (n := m.length) hi (by omega)]
      have q : (!((nt zMv m i).f0 == (nt zMv n i).f0) || (!((nt zMv m i).f1 == (nt zMv n i).f1) || (!((nt zMv m i).f2 == (nt zMv n i).f2) || (!((nt zMv m i).f3 == (nt zMv n i).f3))))) = !sameMv (nt zMv m i) (nt zMv n i) := by simp [sameMv, Bool.not_and]
      rw [q]
      cases sameMv (nt zMv m i) (nt zMv n i) <;> rfl) m.length k 0 (by omega) (by omega)
    simpa [h] using q
  · rw [if_neg (by omega)]; simp [h]
theorem impl_EqualMachines_eq {a : Int} {e : List Bool} {m : List Mv} {b : Int} {f : List Bool} {n : List Mv} {k : Nat} (he : e.length ≤ 1048576) (hm : m.length ≤ 1048576) (hk : 1048576 < k) : impl_EqualMachines.f k a e m b f n = some (eqMach a e m b f n) := by
  unfold impl_EqualMachines.f eqMach
  by_cases h1 : a = b
  · rw [if_pos h1, slices_Equal_bool_bool_eq he hk, Option.bind_some, impl_Move_eq hm hk]
    cases eqBs e f <;> simp [h1]
  · rw [if_neg h1]; simp [h1]

/-! ### impl_InRange -/
theorem impl_InRange_eq (a b c : Int) : impl_InRange.f a b c = some (decide (b ≤ a ∧ a ≤ c)) := by
  unfold impl_InRange.f
  by_cases h : b ≤ a
  · rw [if_pos h]; simp [h]
  · rw [if_neg h, decide_eq_false (by omega)]

/-! ### impl_IsMachine -/
theorem impl_IsMachine_l1 {n : Int} {e : List Bool} {l : List Mv} {i : Nat} (hi : i < l.length) (hl : l.length ≤ 12) {k : Nat} (hk : i < k) : impl_IsMachine.l1 k l (l.length : Int) (i : Int) (l.take i) ((l.take i).length : Int) 0 n e l (nt zMv l i).f0 (nt zMv l i).f1 (nt zMv l i).f2 (nt zMv l i).f3
    = if allFrom (fun j => !clashMv (nt zMv l j) (nt zMv l i)) 0 i = true then impl_IsMachine.l0 (k - i - 1) l (l.length : Int) ((i + 1 : Nat) : Int) n e l else some false := by
  have ht : (l.take i).length = i := by rw [List.length_take]; omega
  have hnt : ∀ j, j < i → nt zMv (l.take i) j = nt zMv l j := fun j hj => by rw [nt_lt _ _ _ (by omega), nt_lt _ _ _ (by omega), List.getElem_take]
  exact inner_loop (g := fun k j => impl_IsMachine.l1 k l (l.length : Int) (i : Int) (l.take i) ((l.take i).length : Int) (j : Int) n e l (nt zMv l i).f0 (nt zMv l i).f1 (nt zMv l i).f2 (nt zMv l i).f3) (n := i) (cont := fun k => impl_IsMachine.l0 k l (l.length : Int) ((i + 1 : Nat) : Int) n e l) (fun k => by
      simp only [impl_IsMachine.l1]; rw [if_neg (by omega), wrap_up (n := l.length) hi (by omega)])
    (fun k j hj => by
      simp only [impl_IsMachine.l1]
      rw [if_pos (by omega), if_pos (by omega), if_pos (by omega), rd_Mv, hnt j hj, wrap_up (n := i) hj (by omega)]
      by_cases h1 : (nt zMv l j).f0 = (nt zMv l i).f0
      · rw [if_pos h1]
        cases h2 : ((nt zMv l j).f1 == (nt zMv l i).f1) with
        | false => rw [if_pos (by simp only [bne, h2, Bool.not_false]), if_neg (by simp [clashMv, h1, h2])]
        | true =>
          rw [if_neg (by simp only [bne, h2, Bool.not_true]; simp)]
          by_cases h3 : (nt zMv l j).f2 = (nt zMv l i).f2
          · rw [if_pos h3, if_neg (by simp [clashMv, h1, h3])]
          · rw [if_neg h3, if_pos (by simp [clashMv, h2, h3])]
      · rw [if_neg h1, if_pos (by simp [clashMv, h1])]) i k 0 (by omega) (by omega)
theorem impl_IsMachine_l0 {n : Int} {e : List Bool} {l : List Mv} (hN : 1 ≤ n ∧ n ≤ 6) (hl : l.length ≤ 12) : ∀ (d k i : Nat), i + d = l.length → 20 * d + 20 < k → impl_IsMachine.l0 k l (l.length : Int) (i : Int) n e l
    = some (allFrom (fun i => okMv n (nt zMv l i) && allFrom (fun j => !clashMv (nt zMv l j) (nt zMv l i)) 0 i) i d) := by
  intro d
  induction d with
  | zero =>
    intro k i h hk
    obtain ⟨k, rfl⟩ := succ_of hk
    simp only [impl_IsMachine.l0]; rw [if_neg (by omega)]; rfl
  | succ d ih =>
    intro k i h hk
    obtain ⟨k, rfl⟩ : ∃ k', k = k' + 2 := ⟨k - 2, by omega⟩
    simp only [impl_IsMachine.l0]
    rw [if_pos (by omega), if_pos (by omega), if_pos (by omega), rd_Mv, wrap_id (x := n - 1) (by omega) (by omega)]
    simp only [impl_InRange_eq, Option.bind_some]
    have e1 : (decide (0 ≤ (nt zMv l i).f0 ∧ (nt zMv l i).f0 ≤ n - 1)) = inB (nt zMv l i).f0 0 (n - 1) := by simp [inB]
    have e2 : (decide (0 ≤ (nt zMv l i).f3 ∧ (nt zMv l i).f3 ≤ n - 1)) = inB (nt zMv l i).f3 0 (n - 1) := by simp [inB]
    have e3 : (decide (0 ≤ (nt zMv l i).f2 ∧ (nt zMv l i).f2 ≤ 5)) = inB (nt zMv l i).f2 0 5 := by simp [inB]
    simp only [e1, e2, e3, allFrom, okMv, impl_IsMachine.j2, Option.bind_some, toNat_cast]
    cases inB (nt zMv l i).f0 0 (n - 1) <;> cases inB (nt zMv l i).f3 0 (n - 1) <;> cases inB (nt zMv l i).f2 0 5 <;> simp only [Bool.false_eq_true, if_false, if_true, Bool.false_and, Bool.true_and, Bool.and_false, Bool.not_true, Bool.not_false]
    rw [if_pos (by omega), if_pos (by omega), impl_IsMachine_l1 (by omega) hl (by omega)]
    by_cases hc : allFrom (fun j => !clashMv (nt zMv l j) (nt zMv l i)) 0 i = true
    · rw [if_pos hc, hc, ih _ (i + 1) (by omega) (by omega)]; simp [okMv]
    · rw [if_neg hc]; simp only [Bool.not_eq_true] at hc; rw [hc]; rfl
theorem impl_IsMachine_eq {n : Int} {e : List Bool} {l : List Mv} {k : Nat} (hk : 1000 < k) : impl_IsMachine.f k n e l = some (isMachine n e l) := by
  unfold impl_IsMachine.f isMachine
  rw [impl_InRange_eq, Option.bind_some]
  obtain ⟨k, rfl⟩ := succ_of hk
  simp only [impl_IsMachine.j0]
  cases h1 : inB n 1 6 with
  | false => rw [if_neg (by simpa [inB] using h1), if_pos trivial]; rfl
  | true =>
    have hN : 1 ≤ n ∧ n ≤ 6 := by simpa [inB] using h1
    rw [if_pos (by simpa [inB] using h1)]
    by_cases h2 : (e.length : Int) = n
    · rw [if_pos h2]
      by_cases h3 : l.length ≤ 12
      · rw [if_neg (by simp; omega)]
        have h := impl_IsMachine_l0 (e := e) hN h3 l.length k 0 (by omega) (by omega)
        simpa [h2, h3] using h
      · rw [if_pos (by simp; omega)]; simp [h3]
    · rw [if_neg h2, if_pos trivial]; simp [h2]

/-! ### impl_RunMachine -/
theorem impl_RunMachine_l0 {n : Int} {e : List Bool} {l : List Mv} {w : List Int} (hl : l.length ≤ 1048576) (hw : w.length ≤ 1048576) (hx : ∀ x ∈ w, -9223372036854775808 ≤ x ∧ x ≤ 9223372036854775807) :
    ∀ (d k i : Nat) (s : Int), i + d = w.length → l.length + d + 1 < k → impl_RunMachine.l0 k s w (w.length : Int) (i : Int) n e l = some (runFrom l s (w.drop i)) := by
  intro d
  induction d with
  | zero =>
    intro k i s h hk
    obtain ⟨k, rfl⟩ := succ_of hk
    obtain rfl : i = w.length := by omega
    simp only [impl_RunMachine.l0]; rw [if_neg (by omega), drop_end]; rfl
  | succ d ih =>
    intro k i s h hk
    obtain ⟨k, rfl⟩ := succ_of hk
    have hb := hx _ (nt_mem 0 w i (by omega))
    simp only [impl_RunMachine.l0]
    rw [if_pos (by omega), if_pos (by omega), if_pos (by omega), rd_cast, drop_step w 0 i (by omega), runFrom, wrap_up (n := w.length) (by omega) (by omega)]
    by_cases q : nt 0 w i < 0
    · rw [if_pos q, msg_impl hb q, impl_MoveOf_eq, Option.bind_some]
      rcases moveOf_bound l s (decide (nt 0 w i ≥ 0)) (msgOf (nt 0 w i)) with hm | ⟨j, hj, hlt, _⟩
      · rw [if_pos hm, if_pos hm]
      · rw [if_neg (by omega), if_pos (by omega), if_pos (by omega), if_neg (by omega), hj, rd_Mv, ih k (i + 1) _ (by omega) (by omega), toNat_cast]
    · rw [if_neg q, impl_MoveOf_eq, Option.bind_some, show msgOf (nt 0 w i) = nt 0 w i by unfold msgOf; rw [if_neg q]]
      rcases moveOf_bound l s (decide (nt 0 w i ≥ 0)) (nt 0 w i) with hm | ⟨j, hj, hlt, _⟩
      · rw [if_pos hm, if_pos hm]
      · rw [if_neg (by omega), if_pos (by omega), if_pos (by omega), if_neg (by omega), hj, rd_Mv, ih k (i + 1) _ (by omega) (by omega), toNat_cast]
theorem impl_RunMachine_eq {n : Int} {e : List Bool} {l : List Mv} {w : List Int} {k : Nat} (hl : l.length ≤ 1048576) (hw : w.length ≤ 1048576) (hx : ∀ x ∈ w, -9223372036854775808 ≤ x ∧ x ≤ 9223372036854775807) (hk : 2100000 < k) : impl_RunMachine.f k n e l w = some (runMachine n e l w) := by
  unfold impl_RunMachine.f runMachine
  rw [impl_IsMachine_eq (by omega), Option.bind_some]
  obtain ⟨k, rfl⟩ : ∃ k', k = k' + 1 := ⟨k - 1, by omega⟩
  have h0 := impl_RunMachine_l0 (n := n) (e := e) (l := l) hl hw hx w.length k 0 0 (by omega) (by omega)
  rw [List.drop_zero] at h0
  simp only [impl_RunMachine.j0]
  cases h : isMachine n e l with
  | false => simp
  | true =>
    by_cases q : w.length ≤ 20
    · have q2 : ¬ (w.length : Int) > 20 := by omega
      simp [q, q2, show ¬ 20 < (w.length : Int) by omega]; exact h0
    · simp [q, show 20 < (w.length : Int) by omega]

/-! ### impl_MovesFrom -/
theorem movesFrom_sort (l : List Mv) (a : Int) (s : Bool) : movesFrom l a s = sortUniq ((l.filter (fromMv a s)).map (·.f2)) := by
  rw [sortUniq_eq]
  unfold movesFrom
  have : ∀ (l : List Mv) (acc : List Int), l.foldl (fun acc x => if fromMv a s x = true then putI acc x.f2 else acc) acc = ((l.filter (fromMv a s)).map (·.f2)).foldl putI acc := by
    intro l
    induction l with
    | nil => intro acc; rfl
    | cons x r ih =>
      intro acc
      rw [List.foldl_cons, List.filter_cons, ih]
      by_cases h : fromMv a s x = true
      · rw [if_pos h, if_pos h]; rfl
      · rw [if_neg h, if_neg h]
  exact this l []
theorem impl_MovesFrom_eq {n : Int} {e : List Bool} {l : List Mv} {a : Int} {s : Bool} {k : Nat} (hl : l.length ≤ 1048576) (hk : l.length < k) : impl_MovesFrom.f k n e l a s = some (movesFrom l a s) := by
  unfold impl_MovesFrom.f
  have h := filter_loopC (g := fun k acc i => impl_MovesFrom.l0 k a s acc l (l.length : Int) (i : Int)) (l := l) (z := zMv) (B := 0) (p := fromMv a s) (f := fun x => x.f2) (fin := fun acc => some (sortUniq acc)) (fun k acc _ ha => by
      simp only [impl_MovesFrom.l0]
      rw [if_neg (by omega)]
      unfold slices_Sort_int_int.f slices_Compact_int_int.f
      rw [if_pos (by omega), Option.bind_some, Option.bind_some]; rfl)
    (fun k i acc hi _ hacc => by
      simp only [impl_MovesFrom.l0]
      rw [if_pos (by omega), if_pos (by omega), if_pos (by omega), rd_Mv, wrap_up (n := l.length) hi (by omega)]
      by_cases h1 : (nt zMv l i).f0 = a
      · rw [if_pos h1]
        cases h2 : ((nt zMv l i).f1 == s) with
        | true => rw [if_pos rfl, if_pos (show acc.length < 17592186044416 by omega), if_pos (by simp [fromMv, h1, h2])]
        | false => rw [if_neg (by simp), if_neg (by simp [fromMv, h2])]
      · rw [if_neg h1, if_neg (by simp [fromMv, h1])]) l.length k 0 [] (by omega) (by omega) (by simp)
  rw [movesFrom_sort]
  simpa using h
theorem movesFrom_len (l : List Mv) (a : Int) (s : Bool) : (movesFrom l a s).length ≤ l.length := by
  rw [movesFrom_sort]; unfold sortUniq
  refine Nat.le_trans (compact_len _) ?_
  rw [List.length_mergeSort, List.length_map]
  exact List.length_filter_le _ _
theorem movesFrom_strict (l : List Mv) (a : Int) (s : Bool) : (movesFrom l a s).Pairwise (· < ·) := by rw [movesFrom_sort]; exact (sortUniq_spec _).1
theorem mem_movesFrom {l : List Mv} {a : Int} {s : Bool} {v : Int} : v ∈ movesFrom l a s ↔ ∃ x ∈ l, fromMv a s x = true ∧ x.f2 = v := by
  rw [movesFrom_sort, (sortUniq_spec _).2, List.mem_map]
  constructor
  · rintro ⟨x, hx, rfl⟩; rw [List.mem_filter] at hx; exact ⟨x, hx.1, hx.2, rfl⟩
  · rintro ⟨x, hx, h, rfl⟩; exact ⟨x, List.mem_filter.2 ⟨hx, h⟩, rfl⟩

/-! ### T_moves -/
theorem moveOf_any (l : List Mv) (a : Int) (s : Bool) (v : Int) : 0 ≤ moveOf l a s v ↔ v ∈ movesFrom l a s := by
  rw [mem_movesFrom]
  have h := idx_any (keyMv a s v) l
  have e : decide (moveOf l a s v ≥ 0) = l.any (keyMv a s v) := h
  constructor
  · intro q
    rw [decide_eq_true (show moveOf l a s v ≥ 0 from q)] at e
    obtain ⟨x, hx, hk⟩ := List.any_eq_true.1 e.symm
    simp only [keyMv, Bool.and_eq_true, beq_iff_eq] at hk
    exact ⟨x, hx, by simp [fromMv, hk.1, hk.2.1], hk.2.2⟩
  · rintro ⟨x, hx, hf, rfl⟩
    have : l.any (keyMv a s x.f2) = true := List.any_eq_true.2 ⟨x, hx, by simp only [fromMv, Bool.and_eq_true, beq_iff_eq] at hf; simp [keyMv, hf.1, hf.2]⟩
    rw [this] at e
    exact of_decide_eq_true e

end FnMachinesAid
open FnMachinesAid

theorem FnMachines_run {n : Int} {e : List Bool} {l : List Mv} (h : isMachine n e l = true) : ∀ (w : List Int) (s : Int), s < n → runFrom l s w < n := by
  unfold isMachine inB at h
  simp only [Bool.and_eq_true, decide_eq_true_eq] at h
  obtain ⟨⟨h1, h6⟩, _, _, hA⟩ := h
  intro w
  induction w with
  | nil => intro s hs; exact hs
  | cons v w ih =>
    intro s hs
    simp only [runFrom]
    split
    · omega
    · rename_i q
      refine ih _ ?_
      rcases moveOf_bound l s (decide (v ≥ 0)) (msgOf v) with h | ⟨j, hj, hl, _⟩
      · exact absurd h q
      · rw [hj, toNat_cast]
        have := (allFrom_iff _ _ _).1 hA j (by omega) (by omega)
        simp only [okMv, inB, Bool.and_eq_true, decide_eq_true_eq] at this
        omega
theorem FnMachines_l1 {n : Int} {e : List Bool} {l : List Mv} {x : Int} {b : Bool} (hl : (movesFrom l x b).length ≤ 1048576) : ∀ (c y k : Nat), y + c = (movesFrom l x b).length → c < k → laws_FnMachines.l1 k x b (movesFrom l x b) (y : Int) n e l = some true := by
  intro c
  induction c with
  | zero =>
    intro y k hy hk
    obtain ⟨k, rfl⟩ := succ_of hk
    simp only [laws_FnMachines.l1]
    rw [if_neg (by omega)]
  | succ c ih =>
    intro y k hy hk
    obtain ⟨k, rfl⟩ := succ_of hk
    simp only [laws_FnMachines.l1]
    have h1 := (moveOf_any l x b (nt 0 (movesFrom l x b) y)).2 (nt_mem 0 _ y (by omega))
    rw [if_pos (by omega), if_pos (by omega), rd_cast, impl_MoveOf_eq, Option.bind_some, if_neg (by omega), wrap_up (n := (movesFrom l x b).length) (by omega) (by omega)]
    by_cases q : (y : Int) > 0
    · have hp := List.pairwise_iff_getElem.1 (movesFrom_strict l x b) (y - 1) y (by omega) (by omega) (by omega)
      rw [if_pos q, wrap_dn (by omega) (by omega), if_pos (by omega), if_pos (by omega), rd_cast, if_neg (by rw [nt_lt _ _ _ (show y - 1 < (movesFrom l x b).length by omega), nt_lt _ _ _ (show y < (movesFrom l x b).length by omega)]; omega)]
      exact ih (y + 1) k (by omega) (by omega)
    · rw [if_neg q]
      exact ih (y + 1) k (by omega) (by omega)
theorem FnMachines_j2 {st : List Int} {k : Nat} (hs : st.length ≤ 1048576) (hk : 2100000 < k) : laws_FnMachines.j2 (k + 1) st false = some true := by
  simp only [laws_FnMachines.j2, Bool.false_eq_true, if_false]
  obtain ⟨n, e, l, x, b, h1, hl⟩ := draw_mf (k := k) hs (by omega)
  have h2 := movesFrom_len l x b
  rw [h1, Option.bind_some]
  dsimp only
  rw [impl_MovesFrom_eq (by omega) (by omega), Option.bind_some]
  exact FnMachines_l1 (by omega) (movesFrom l x b).length 0 k (by omega) (by omega)
theorem FnMachines_l0 {st : List Int} (hs : st.length ≤ 1048576) {n : Int} {e : List Bool} {l : List Mv} {w : List Int} (hl : l.length ≤ 13) (hw : w.length ≤ 7) (hW : IntW w) : ∀ (c y k : Nat), y + c = w.length → 2200000 + c < k → laws_FnMachines.l0 k st w (negW (w.take y)) (y : Int) n e l n e (l.map flipMv) = some true := by
  intro c
  induction c with
  | zero =>
    intro y k hy hk
    obtain ⟨k, rfl⟩ := succ_of hk
    obtain rfl : y = w.length := by omega
    have hN : ∀ x ∈ negW w, -9223372036854775808 ≤ x ∧ x ≤ 9223372036854775807 := by
      intro x hx
      obtain ⟨v, hv, rfl⟩ := List.mem_map.1 hx
      have := hW v hv
      omega
    have lN : (negW w).length = w.length := List.length_map ..
    have lD : (l.map flipMv).length = l.length := List.length_map ..
    have F := FnMachines_j2 (st := st) (k := k - 1) hs (by omega)
    rw [show k - 1 + 1 = k by omega] at F
    simp only [laws_FnMachines.l0]
    rw [if_neg (by omega), List.take_length, impl_RunMachine_eq (by omega) (by omega) hW (by omega), Option.bind_some, impl_RunMachine_eq (by omega) (by omega) hN (by omega), Option.bind_some, runMachine_flip, if_pos rfl]
    by_cases q : runMachine n e l w ≥ 0
    · rw [if_pos q, impl_IsMachine_eq (by omega), Option.bind_some]
      have hM : isMachine n e l = true := by
        unfold runMachine at q
        cases h : isMachine n e l with
        | true => rfl
        | false => simp [h] at q
      have hn : runMachine n e l w < n := by
        have h1 : 0 < n := by
          unfold isMachine inB at hM
          simp only [Bool.and_eq_true, decide_eq_true_eq] at hM
          omega
        unfold runMachine
        split
        · exact FnMachines_run hM w 0 h1
        · omega
      rw [if_pos hM, decide_eq_false (by omega)]
      exact F
    · rw [if_neg q]
      exact F
  | succ c ih =>
    intro y k hy hk
    obtain ⟨k, rfl⟩ := succ_of hk
    simp only [laws_FnMachines.l0]
    have hv := hW _ (nt_mem 0 w y (by omega))
    have hlen : (negW (w.take y)).length < 17592186044416 := by
      unfold negW
      rw [List.length_map, List.length_take]; omega
    have e1 : wrap64 (-(wrap64 (nt 0 w y + 1))) = -(nt 0 w y + 1) := by
      unfold wrap64; omega
    have e2 : negW (w.take (y + 1)) = negW (w.take y) ++ [-(nt 0 w y + 1)] := by
      unfold negW
      rw [take_step w 0 y (by omega), List.map_append]; rfl
    rw [if_pos (by omega), if_pos (by omega), if_pos hlen, rd_cast, e1, ← e2, wrap_up (n := w.length) (by omega) (by omega)]
    exact ih (y + 1) k (by omega) (by omega)
theorem FnMachines : laws_FnMachines.Pure := by
  intro st _ _ _
  obtain ⟨k, hk⟩ : ∃ k, k = 2300001 := ⟨_, rfl⟩
  refine ⟨k, ?_⟩
  unfold laws_FnMachines.f laws_big.f
  rw [Option.bind_some]
  by_cases hb : (st.length : Int) > 1048576
  · rw [if_pos (decide_eq_true hb)]
  · rw [if_neg (by simp [hb])]
    have hs : st.length ≤ 1048576 := by omega
    obtain ⟨n, e, l, w, h1, he, hl, hw, hW⟩ := draw_run (k := k) hs (by omega)
    have lD : (l.map flipMv).length = l.length := List.length_map ..
    have hE : eqMach n e l n e l = true := by
      unfold eqMach eqBs eqMvs
      rw [decide_eq_true rfl, decide_eq_true rfl, decide_eq_true rfl, (allFrom_iff _ _ _).2 (fun j _ _ => by simp), (allFrom_iff _ _ _).2 (fun j _ _ => sameMv_self _)]; rfl
    rw [h1, Option.bind_some]
    dsimp only
    rw [impl_DualOf_eq (by omega) (by omega) (by omega), Option.bind_some]
    dsimp only
    rw [impl_DualOf_eq (by omega) (by omega) (by omega), Option.bind_some]
    dsimp only
    rw [flipMv_two, impl_EqualMachines_eq (by omega) (by omega) (by omega), hE, Option.bind_some, if_pos rfl, impl_IsMachine_eq (by omega), Option.bind_some, impl_IsMachine_eq (by omega), Option.bind_some, isMachine_flip, bne_self_eq_false]
    obtain ⟨k, rfl⟩ := succ_of (show 0 < k by omega)
    simp only [laws_FnMachines.j0, Bool.false_eq_true, if_false]
    exact FnMachines_l0 hs hl hw hW w.length 0 k (by omega) (by omega)

end Go.Proofs.Ytjlaogjikkckkaa.Pure
