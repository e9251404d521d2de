/- The law FnDiffers answers true on every list of bytes, as a statement over lists alone; the bounds are those of memory. -/
import Derived.Test.YticpmgofegaaeaaPFnDiffersx11
import Derived.Test.YticpmgofegaaeaaGb
import Derived.Test.YticpmgofegaaeaaGr
import Derived.Test.YticpmgofegaaeaaGh
namespace Go.Proofs.Yticpmgofegaaeaa.Pure
open Go.RowKit Go.Proofs.Yticpmgofegaaeaa.PFnDiffers Go.Proofs.YticpmgofegaaeaaW.PrintWords Go.Proofs.YticpmgofegaaeaaW.PrintLast Go.Proofs.Yticpmgofegaaeaa.Gb Go.Proofs.Yticpmgofegaaeaa.Gr Go.Proofs.Yticpmgofegaaeaa.Gh Go.Proofs.Yticpmgofegaaeaa
set_option linter.unusedSimpArgs false
set_option linter.unusedVariables false
namespace FnDiffersAid

/-! ### T_draw -/
theorem and_byte (x : Int) : 0 ≤ Go.bits .and .i64 x 255 ∧ Go.bits .and .i64 x 255 ≤ 255 := by
  have h : (BitVec.ofInt 64 x &&& BitVec.ofInt 64 255).toNat ≤ 255 := by
    rw [BitVec.toNat_and]
    exact Nat.le_trans Nat.and_le_right (by decide)
  have e : Go.bits .and .i64 x 255 = IntKind.i64.wrap ((BitVec.ofInt 64 x &&& BitVec.ofInt 64 255).toNat : Int) := rfl
  rw [e, IntKind.wrap_i64]; omega
theorem draw_new {l : List Int} {k : Nat} (hl : l.length ≤ 1048576) (hk : l.length < k) : ∃ s, spec_l1New.f k l = some (l, 0, s) := by
  unfold spec_l1New.f
  have h : ∀ (d k i : Nat) (s : Int), i + d = l.length → d < k → ∃ s', spec_l1New.l0 k l s (i : Int) = some (l, 0, s') := by
    intro d
    induction d with
    | zero =>
      intro k i s hi hk
      obtain ⟨k, rfl⟩ := succ_of hk
      simp only [spec_l1New.l0]
      rw [if_neg (by omega)]; exact ⟨_, rfl⟩
    | succ d ih =>
      intro k i s hi hk
      obtain ⟨k, rfl⟩ := succ_of hk
      simp only [spec_l1New.l0]
      rw [if_pos (by omega)]
      by_cases q : (i : Int) < 4000
      · rw [if_pos q, if_pos (by omega), wrap_up (n := l.length) (by omega) (by omega)]
        exact ih k (i + 1) _ (by omega) (by omega)
      · rw [if_neg q]; exact ⟨_, rfl⟩
  exact h l.length k 0 _ (by omega) hk
theorem draw_byte {l : List Int} {i s : Int} (hl : l.length ≤ 1048576) (hi : 0 ≤ i) : ∃ b j t, spec_l1Byte.f l i s = some (b, j, t) ∧ 0 ≤ b ∧ b ≤ 255 ∧ 0 ≤ j := by
  unfold spec_l1Byte.f
  by_cases q : i < (l.length : Int)
  · rw [if_pos q, if_pos hi]
    exact ⟨_, _, _, rfl, (and_byte _).1, (and_byte _).2, by rw [wrap_id (by omega) (by omega)]; omega⟩
  · rw [if_neg q]
    exact ⟨_, _, _, rfl, (and_byte _).1, (and_byte _).2, hi⟩
theorem draw_below {l : List Int} {i s n : Int} (hl : l.length ≤ 1048576) (hi : 0 ≤ i) (h0 : 0 < n) (h1 : n ≤ 256) : ∃ v j t, spec_l1Below.f l i s n = some (v, j, t) ∧ 0 ≤ v ∧ v < n ∧ 0 ≤ j := by
  unfold spec_l1Below.f
  obtain ⟨b, j, t, e, b0, b1, j0⟩ := draw_byte (s := s) hl hi
  rw [if_neg (by omega), if_pos h1, e, Option.bind_some, if_neg (by omega)]
  refine ⟨_, _, _, rfl, Int.tmod_nonneg _ b0, ?_, j0⟩
  exact Int.tmod_lt_of_pos _ h0

/-! ### T_int -/
theorem draw_int {st xs : List Int} {i s : Int} (hl : st.length ≤ 1048576) (hi : 0 ≤ i) (h0 : 0 < xs.length) (h1 : xs.length ≤ 256) : ∃ v j t, spec_l1Int.f st i s xs = some (v, j, t) ∧ v ∈ xs ∧ 0 ≤ j := by
  unfold spec_l1Int.f
  obtain ⟨v, j, t, e, v0, v1, j0⟩ := draw_below (s := s) (n := (xs.length : Int)) hl hi (by omega) (by omega)
  rw [e, Option.bind_some, if_pos v0, if_pos v1]
  obtain ⟨n, rfl⟩ : ∃ n : Nat, v = n := ⟨v.toNat, by omega⟩
  exact ⟨_, _, _, rfl, by rw [rd_cast]; exact nt_mem 0 xs n (by omega), j0⟩

/-! ### T_inB -/
def inB (x a b : Int) : Bool := decide (a ≤ x) && decide (x ≤ b)
theorem inB_dec (x a b : Int) : decide (a ≤ x ∧ x ≤ b) = inB x a b := by simp [inB]

/-! ### T_Field -/
abbrev Fd := S47
abbrev zFd : Fd := z47
theorem rd_Fd (l : List Fd) (i : Nat) : rd_T47 l (i : Int) = nt zFd l i := by simp [rd_T47, nt]
theorem rd_FdI (l : List Fd) (i : Int) : rd_T47 l i = nt zFd l i.toNat := by simp [rd_T47, nt]
/-- A field that may stand at place i. -/
def okFd (l : List Fd) (i : Nat) : Bool := inB (nt zFd l i).f0 1 3 && (inB (nt zFd l i).f1 1 (if (nt zFd l i).f0 = 1 then 99 else 5) && (if (nt zFd l i).f2 = -1 then (nt zFd l i).f3 == 0 else
  inB (nt zFd l i).f2 0 ((i : Int) - 1) && (decide ((nt zFd l (nt zFd l i).f2.toNat).f0 = 1) && (decide ((nt zFd l (nt zFd l i).f2.toNat).f2 = -1) && inB (nt zFd l i).f3 0 (nt zFd l (nt zFd l i).f2.toNat).f1))))
def isFormat (l : List Fd) : Bool := allFrom (okFd l) 0 l.length && inB l.length 1 6

/-! ### spec_l4Draw -/
theorem once4 {st : List Int} {i s n : Int} (hl : st.length ≤ 1048576) (hi : 0 ≤ i) (h0 : 0 < n) (h1 : n ≤ 256) : ∃ v j t, spec_l1Once.f st i s n = some (v, j, t) ∧ 0 ≤ j := by
  unfold spec_l1Once.f
  obtain ⟨v, j, t, e, _, _, j0⟩ := draw_below (s := s) (n := n) hl hi h0 h1
  rw [e, Option.bind_some]
  exact ⟨_, _, _, rfl, j0⟩
theorem nt0_snoc (l : List Fd) (x : Fd) (h : 1 ≤ l.length) : nt zFd (l ++ [x]) 0 = nt zFd l 0 := by
  rw [nt_lt _ _ _ (show 0 < (l ++ [x]).length by simp), nt_lt _ _ _ (show 0 < l.length by omega), List.getElem_append_left]
theorem draw_l4_l0 {st : List Int} (hs : st.length ≤ 1048576) : ∀ (c k : Nat) (l : List Fd) (i s : Int), 0 ≤ i → 1 ≤ l.length → l.length + c ≤ 6 → 1 ≤ (nt zFd l 0).f1 → (nt zFd l 0).f1 ≤ 9 → c < k → ∃ l' j t, spec_l4Draw.l0 k l (c : Int) st i s = some (l', j, t) ∧ 1 ≤ l'.length ∧ l'.length ≤ 6 ∧ 0 ≤ j := by
  intro c
  induction c with
  | zero =>
    intro k l i s hi h1 h6 _ _ hk
    obtain ⟨k, rfl⟩ := succ_of hk
    simp only [spec_l4Draw.l0]
    rw [if_neg (by omega)]
    exact ⟨_, _, _, rfl, h1, by omega, hi⟩
  | succ c ih =>
    intro k l i s hi h1 h6 m0 m1 hk
    obtain ⟨k, rfl⟩ := succ_of hk
    simp only [spec_l4Draw.l0]
    obtain ⟨v, j, t, e, v0, v1, j0⟩ := draw_below (s := s) (n := 3) hs hi (by omega) (by omega)
    obtain ⟨w, j1, t1, e1, w0, w1, j10⟩ := draw_below (s := t) (n := 5) hs j0 (by omega) (by omega)
    obtain ⟨b, j2, t2, e2, j20⟩ := once4 (s := t1) (n := 3) hs j10 (by omega) (by omega)
    rw [if_pos (by omega), e, Option.bind_some]
    dsimp only
    rw [e1, Option.bind_some]
    dsimp only
    rw [e2, Option.bind_some]
    dsimp only
    rw [wrap_id (x := ((c + 1 : Nat) : Int) - 1) (by omega) (by omega), show ((c + 1 : Nat) : Int) - 1 = (c : Int) by omega]
    cases b with
    | true =>
      obtain ⟨x, j3, t3, e3, x0, x1, j30⟩ := draw_below (s := t2) (n := (nt zFd l 0).f1 + 1) hs j20 (by omega) (by omega)
      have hr : rd_T47 l 0 = nt zFd l 0 := rd_Fd l 0
      rw [if_pos rfl, if_pos (by omega), hr, wrap_id (x := (nt zFd l 0).f1 + 1) (by omega) (by omega), e3, Option.bind_some]
      dsimp only
      rw [if_pos (by omega)]
      exact ih k _ j3 t3 j30 (by simp) (by rw [List.length_append, List.length_singleton]; omega) (by rw [nt0_snoc _ _ h1]; exact m0) (by rw [nt0_snoc _ _ h1]; exact m1) (by omega)
    | false =>
      rw [if_neg (by simp), if_pos (by omega)]
      exact ih k _ j2 t2 j20 (by simp) (by rw [List.length_append, List.length_singleton]; omega) (by rw [nt0_snoc _ _ h1]; exact m0) (by rw [nt0_snoc _ _ h1]; exact m1) (by omega)
theorem draw_l4 {st : List Int} {k : Nat} {i s : Int} (hs : st.length ≤ 1048576) (hi : 0 ≤ i) (hk : 100 < k) : ∃ l j t, spec_l4Draw.f k st i s = some (l, j, t) ∧ 1 ≤ l.length ∧ l.length ≤ 6 ∧ 0 ≤ j := by
  unfold spec_l4Draw.f
  obtain ⟨v, j, t, e, v0, v1, j0⟩ := draw_below (s := s) (n := 9) hs hi (by omega) (by omega)
  obtain ⟨w, j1, t1, e1, w0, w1, j10⟩ := draw_below (s := t) (n := 5) hs j0 (by omega) (by omega)
  rw [e, Option.bind_some]
  dsimp only
  rw [e1, Option.bind_some]
  dsimp only
  obtain ⟨c, rfl⟩ : ∃ c : Nat, w = c := ⟨w.toNat, by omega⟩
  have hx : nt zFd [(⟨1, wrap64 (1 + v), (-1), 0⟩ : Fd)] 0 = ⟨1, wrap64 (1 + v), (-1), 0⟩ := rfl
  have hw : wrap64 (1 + v) = 1 + v := wrap_id (by omega) (by omega)
  exact draw_l4_l0 hs c k _ j1 t1 j10 (by simp) (by simp; omega) (by rw [hx]; show 1 ≤ wrap64 (1 + v); omega) (by rw [hx]; show wrap64 (1 + v) ≤ 9; omega) (by omega)

/-! ### spec_l4Any -/
theorem draw_l4Any_l0 {st : List Int} {i s : Int} : ∀ (d k : Nat) (l : List Fd), l.length + d = 7 → 1 ≤ l.length → d < k → ∃ l', spec_l4Any.l0 k l st i s = some (l', i, s) ∧ l'.length ≤ 7 := by
  intro d
  induction d with
  | zero =>
    intro k l hl _ hk
    obtain ⟨k, rfl⟩ := succ_of hk
    simp only [spec_l4Any.l0]
    rw [if_neg (by omega)]
    exact ⟨_, rfl, by omega⟩
  | succ d ih =>
    intro k l hl h1 hk
    obtain ⟨k, rfl⟩ := succ_of hk
    simp only [spec_l4Any.l0]
    rw [if_pos (by omega), if_pos (by omega), if_pos (by omega)]
    exact ih k _ (by rw [List.length_append, List.length_singleton]; omega) (by simp) (by omega)
theorem draw_l4Any {st : List Int} {k : Nat} {i s : Int} (hs : st.length ≤ 1048576) (hi : 0 ≤ i) (hk : 100 < k) : ∃ l j t, spec_l4Any.f k st i s = some (l, j, t) ∧ l.length ≤ 7 ∧ 0 ≤ j := by
  unfold spec_l4Any.f
  obtain ⟨l, j, t, e, l1, l6, j0⟩ := draw_l4 (k := k) (s := s) hs hi (by omega)
  obtain ⟨v, j1, t1, e1, v0, v1, j10⟩ := draw_below (s := t) (n := (l.length : Int)) hs j0 (by omega) (by omega)
  obtain ⟨w, j2, t2, e2, w0, w1, j20⟩ := draw_below (s := t1) (n := 12) hs j10 (by omega) (by omega)
  rw [e, Option.bind_some]
  dsimp only
  rw [e1, Option.bind_some]
  dsimp only
  rw [e2, Option.bind_some]
  dsimp only
  by_cases q0 : w = 0
  · obtain ⟨x, j3, t3, e3, _, j30⟩ := draw_int (s := t2) (xs := [0, 4, 1]) hs j20 (by simp) (by simp)
    rw [if_pos q0, e3, Option.bind_some]
    dsimp only
    rw [if_pos v0, if_pos v1]
    exact ⟨_, _, _, rfl, by rw [List.length_set]; omega, j30⟩
  rw [if_neg q0]
  by_cases q1 : w = 1
  · obtain ⟨x, j3, t3, e3, _, j30⟩ := draw_int (s := t2) (xs := [0, 5, 6, 99, 100, 9223372036854775807]) hs j20 (by simp) (by simp)
    rw [if_pos q1, e3, Option.bind_some]
    dsimp only
    rw [if_pos v0, if_pos v1]
    exact ⟨_, _, _, rfl, by rw [List.length_set]; omega, j30⟩
  rw [if_neg q1]
  by_cases q2 : w = 2
  · obtain ⟨x, j3, t3, e3, _, j30⟩ := draw_int (s := t2) (xs := [(-2), 0, 1, 5, 9223372036854775807]) hs j20 (by simp) (by simp)
    rw [if_pos q2, e3, Option.bind_some]
    dsimp only
    rw [if_pos v0, if_pos v1]
    exact ⟨_, _, _, rfl, by rw [List.length_set]; omega, j30⟩
  rw [if_neg q2]
  by_cases q3 : w = 3
  · obtain ⟨x, j3, t3, e3, _, j30⟩ := draw_int (s := t2) (xs := [(-1), 1, 10]) hs j20 (by simp) (by simp)
    rw [if_pos q3, e3, Option.bind_some]
    dsimp only
    rw [if_pos v0, if_pos v1]
    exact ⟨_, _, _, rfl, by rw [List.length_set]; omega, j30⟩
  rw [if_neg q3]
  by_cases q4 : w = 4
  · obtain ⟨l', e3, hl'⟩ := draw_l4Any_l0 (st := st) (i := j2) (s := t2) (7 - l.length) k l (by omega) (by omega) (by omega)
    rw [if_pos q4, e3]
    exact ⟨_, _, _, rfl, hl', j20⟩
  rw [if_neg q4]
  by_cases q5 : w = 5
  · rw [if_pos q5]; exact ⟨_, _, _, rfl, by simp, j20⟩
  · rw [if_neg q5]; exact ⟨_, _, _, rfl, by omega, j20⟩

/-! ### spec_DrawBreakOf -/
theorem draw_l8Next {st : List Int} {l : List Fd} {i s : Int} (hs : st.length ≤ 1048576) (hi : 0 ≤ i) (h1 : 1 ≤ l.length) (h6 : l.length ≤ 6) : ∃ l' j t, spec_l8Next.f st i s l = some (l', j, t) ∧ l'.length ≤ 7 ∧ 0 ≤ j := by
  unfold spec_l8Next.f
  obtain ⟨v, j1, t1, e1, v0, v1, j10⟩ := draw_below (s := s) (n := (l.length : Int)) hs hi (by omega) (by omega)
  obtain ⟨w, j2, t2, e2, w0, w1, j20⟩ := draw_below (s := t1) (n := 6) hs j10 (by omega) (by omega)
  rw [Option.bind_some, if_pos (by rw [List.length_nil]; omega), Option.bind_some, List.nil_append, e1, Option.bind_some]
  dsimp only
  rw [e2, Option.bind_some]
  dsimp only
  by_cases q0 : w = 0
  · rw [if_pos q0, if_pos v0, if_pos v1]
    unfold spec_Min.f
    split <;> (rw [Option.bind_some]; exact ⟨_, _, _, rfl, by rw [List.length_set]; omega, j20⟩)
  rw [if_neg q0]
  by_cases q1 : w = 1
  · rw [if_pos q1, if_pos v0, if_pos v1]
    unfold spec_Max.f
    split <;> (rw [Option.bind_some]; exact ⟨_, _, _, rfl, by rw [List.length_set]; omega, j20⟩)
  rw [if_neg q1]
  by_cases q2 : w = 2
  · rw [if_pos q2]
    by_cases q : (l.length : Int) < 6
    · obtain ⟨x, j3, t3, e3, _, _, j30⟩ := draw_below (s := t2) (n := 3) hs j20 (by omega) (by omega)
      obtain ⟨y, j4, t4, e4, _, _, j40⟩ := draw_below (s := t3) (n := 4) hs j30 (by omega) (by omega)
      rw [if_pos q, e3, Option.bind_some]
      dsimp only
      rw [e4, Option.bind_some]
      dsimp only
      rw [if_pos (by omega)]
      exact ⟨_, _, _, rfl, by rw [List.length_append, List.length_singleton]; omega, j40⟩
    · rw [if_neg q]; exact ⟨_, _, _, rfl, by omega, j20⟩
  rw [if_neg q2]
  by_cases q3 : w = 3
  · obtain ⟨x, j3, t3, e3, _, _, j30⟩ := draw_below (s := t2) (n := 3) hs j20 (by omega) (by omega)
    rw [if_pos q3, e3, Option.bind_some]
    dsimp only
    rw [if_pos v0, if_pos v1]
    exact ⟨_, _, _, rfl, by rw [List.length_set]; omega, j30⟩
  rw [if_neg q3]
  by_cases q4 : w = 4
  · rw [if_pos q4, wrap_id (x := v + 1) (by omega) (by omega), if_pos (by omega), if_pos (by omega)]
    exact ⟨_, _, _, rfl, by rw [List.length_take]; omega, j20⟩
  · rw [if_neg q4]; exact ⟨_, _, _, rfl, by omega, j20⟩
theorem draw_break {st : List Int} {k : Nat} (hs : st.length ≤ 1048576) (hk : 1048600 < k) : ∃ a b, spec_DrawBreakOf.f k st = some (a, b) ∧ a.length ≤ 7 ∧ b.length ≤ 7 := by
  unfold spec_DrawBreakOf.f spec_DrawIsWithin.f
  obtain ⟨s, e⟩ := draw_new (k := k) hs (by omega)
  rw [e, Option.bind_some]
  dsimp only
  obtain ⟨l, j, t, e1, l1, l6, j0⟩ := draw_l4 (k := k) (s := s) (i := 0) hs (by omega) (by omega)
  rw [e1, Option.bind_some]
  dsimp only
  obtain ⟨m, j1, t1, e2, hm, j10⟩ := draw_l8Next (s := t) hs j0 l1 l6
  rw [e2, Option.bind_some]
  dsimp only
  obtain ⟨v, j2, t2, e3, _, _, j20⟩ := draw_below (s := t1) (n := 8) hs j10 (by omega) (by omega)
  rw [e3, Option.bind_some]
  dsimp only
  by_cases q0 : v = 0
  · rw [if_pos q0]; exact ⟨_, _, rfl, hm, by show l.length ≤ 7; omega⟩
  · rw [if_neg q0]
    by_cases q1 : v = 1
    · obtain ⟨n, j3, t3, e4, hn, _⟩ := draw_l4Any (k := k) (s := t2) hs j20 (by omega)
      rw [if_pos q1, e4]; exact ⟨_, _, rfl, by show l.length ≤ 7; omega, hn⟩
    · rw [if_neg q1]; exact ⟨_, _, rfl, by show l.length ≤ 7; omega, hm⟩

/-! ### T_eqFds -/
def sameFd (x y : Fd) : Bool := (x.f0 == y.f0) && ((x.f1 == y.f1) && ((x.f2 == y.f2) && (x.f3 == y.f3)))
def eqFds (a b : List Fd) : Bool := decide (a.length = b.length) && allFrom (fun i => sameFd (nt zFd a i) (nt zFd b i)) 0 a.length
theorem sameFd_not (x y : Fd) : (!(x.f0 == y.f0) || (!(x.f1 == y.f1) || (!(x.f2 == y.f2) || !(x.f3 == y.f3)))) = !sameFd x y := by
  unfold sameFd
  cases (x.f0 == y.f0) <;> cases (x.f1 == y.f1) <;> cases (x.f2 == y.f2) <;> cases (x.f3 == y.f3) <;> rfl

/-! ### T_IsWithin -/
def withinFd (x y : Fd) : Bool := (x.f0 == y.f0) && ((x.f2 == y.f2) && ((x.f3 == y.f3) && decide (x.f1 ≤ y.f1)))
def isWithin (l m : List Fd) : Bool := isFormat l && (isFormat m && (decide (l.length = m.length) && allFrom (fun i => withinFd (nt zFd l i) (nt zFd m i)) 0 l.length))

/-! ### T_break -/
def breakOf (l m : List Fd) : Int := if (isFormat l && isFormat m) = false then 4 else if eqFds l m = true then 0 else if isWithin l m = true then 1 else if isWithin m l = true then 3 else if l.length < m.length then (if isWithin l (m.take l.length) = true then 2 else 4) else 4

/-! ### T_Value -/
abbrev Va := S58
abbrev zVa : Va := z58
theorem rd_Va (l : List Va) (i : Nat) : rd_T58 l (i : Int) = nt zVa l i := by simp [rd_T58, nt]
theorem rd_VaI (l : List Va) (i : Int) : rd_T58 l i = nt zVa l i.toNat := by simp [rd_T58, nt]
def isThere (l : List Fd) (m : List Va) (i : Nat) : Bool := decide (i < l.length) && (decide ((nt zFd l i).f2 = -1) || (inB (nt zFd l i).f2 0 ((m.length : Int) - 1) && ((nt zVa m (nt zFd l i).f2.toNat).f0 == (nt zFd l i).f3)))
def numsIn (xs : List Int) (hi : Int) : Bool := xs.all fun x => decide (0 ≤ x ∧ x ≤ hi)
def fitsField (x : Fd) (v : Va) : Bool := if x.f0 = 1 then inB v.f0 0 x.f1 && ((v.f1.length : Int) == 0) else if x.f0 = 2 then decide (v.f0 = 0) && (decide ((v.f1.length : Int) ≤ x.f1) && numsIn v.f1 255) else if x.f0 = 3 then decide (v.f0 = 0) && (decide ((v.f1.length : Int) ≤ x.f1) && numsIn v.f1 99) else false
def fitAt (l : List Fd) (m : List Va) (i : Nat) : Bool := if isThere l m i = true then fitsField (nt zFd l i) (nt zVa m i) else decide ((nt zVa m i).f0 = 0) && decide ((nt zVa m i).f1.length = 0)
def fitsFormat (l : List Fd) (m : List Va) : Bool := isFormat l && (decide (l.length = m.length) && allFrom (fitAt l m) 0 l.length)
def encAt (l : List Fd) (m : List Va) (i : Nat) : List Int := if isThere l m i = true then (if (nt zFd l i).f0 = 1 then [(nt zVa m i).f0] else ((nt zVa m i).f1.length : Int) :: (nt zVa m i).f1) else []
def encFrom (l : List Fd) (m : List Va) : Nat → Nat → List Int
  | 0, _ => []
  | d + 1, i => encAt l m i ++ encFrom l m d (i + 1)
def encodeMsg (l : List Fd) (m : List Va) : List Int × Bool := if fitsFormat l m = true then (encFrom l m l.length 0, true) else ([], false)
def itemsOf (s : Int) (i c : Nat) : List Int := (List.range c).map fun (j : Nat) => pickOf s (16 * (i : Int) + (j : Int) + 1) 100
def mkVal (l : List Fd) (s : Int) (acc : List Va) (i : Nat) : Va :=
  if isThere l acc i = true then (if (nt zFd l i).f0 = 1 then ⟨pickOf s (16 * (i : Int)) ((nt zFd l i).f1 + 1), []⟩ else ⟨0, itemsOf s i (pickOf s (16 * (i : Int)) ((nt zFd l i).f1 + 1)).toNat⟩) else ⟨0, []⟩
def mkFrom (l : List Fd) (s : Int) : Nat → List Va → Nat → List Va
  | 0, acc, _ => acc
  | d + 1, acc, i => mkFrom l s d (acc ++ [mkVal l s acc i]) (i + 1)
def makeMsg (l : List Fd) (s : Int) : List Va := if isFormat l = true then mkFrom l s l.length [] 0 else []
def makeBytes (l : List Fd) (s : Int) : List Int := (encodeMsg l (makeMsg l s)).1
def readVal (x : Fd) (b : List Int) : Option (Va × Nat) :=
  if b.length = 0 then none else if x.f0 = 1 then (if fitsField x ⟨nt 0 b 0, []⟩ = true then some (⟨nt 0 b 0, []⟩, 1) else none)
  else if 0 ≤ nt 0 b 0 ∧ nt 0 b 0 ≤ (b.length : Int) - 1 then (if fitsField x ⟨0, (b.drop 1).take (nt 0 b 0).toNat⟩ = true then some (⟨0, (b.drop 1).take (nt 0 b 0).toNat⟩, 1 + (nt 0 b 0).toNat) else none) else none
def rdFrom (l : List Fd) (b : List Int) : Nat → List Va → Nat → Nat → Option (List Va × Nat)
  | 0, acc, a, _ => some (acc, a)
  | d + 1, acc, a, i => if isThere l acc i = true then (match readVal (nt zFd l i) (b.drop a) with | none => none | some (v, n) => rdFrom l b d (acc ++ [v]) (a + n) (i + 1)) else rdFrom l b d (acc ++ [⟨0, []⟩]) a (i + 1)
def readPrefix (l : List Fd) (b : List Int) : List Va × Int := if isFormat l = true then (match rdFrom l b l.length [] 0 0 with | none => ([], -1) | some (m, a) => (m, (a : Int))) else ([], -1)
def decodeMsg (l : List Fd) (b : List Int) : List Va × Bool := if (readPrefix l b).2 = (b.length : Int) then ((readPrefix l b).1, true) else ([], false)
theorem pick_bound {a b c : Int} (h0 : 1 ≤ c) (h1 : c ≤ 1000000) : 0 ≤ pickOf a b c ∧ pickOf a b c < c := by
  unfold pickOf modOf
  obtain ⟨h, hh⟩ : ∃ h, h = hashOf [a, b] := ⟨_, rfl⟩
  rw [if_neg (by omega), if_pos ⟨h0, by omega⟩, ← hh]
  have hb : -c < Int.tmod h c ∧ Int.tmod h c < c := by
    refine ⟨?_, Int.tmod_lt_of_pos _ (by omega)⟩
    by_cases q : 0 ≤ h
    · have := Int.tmod_nonneg c q; omega
    · have e := Int.neg_tmod h c
      have h2 : Int.tmod (-h) c < c := Int.tmod_lt_of_pos _ (by omega)
      omega
  rw [wrap_id (by omega) (by omega)]
  exact ⟨Int.tmod_nonneg c (by omega), Int.tmod_lt_of_pos _ (by omega)⟩
theorem format_at {l : List Fd} (h : isFormat l = true) : l.length ≤ 6 ∧ ∀ i, i < l.length → 1 ≤ (nt zFd l i).f0 ∧ (nt zFd l i).f0 ≤ 3 ∧ 1 ≤ (nt zFd l i).f1 ∧ (nt zFd l i).f1 ≤ 99 ∧ ((nt zFd l i).f0 ≠ 1 → (nt zFd l i).f1 ≤ 5) := by
  unfold isFormat at h
  rw [Bool.and_eq_true, allFrom_iff] at h
  refine ⟨by have := h.2; simp only [inB, Bool.and_eq_true, decide_eq_true_eq] at this; omega, fun i hi => ?_⟩
  have := h.1 i (by omega) (by omega)
  unfold okFd at this
  simp only [Bool.and_eq_true, inB, decide_eq_true_eq] at this
  obtain ⟨⟨h1, h2⟩, ⟨h3, h4⟩, _⟩ := this
  refine ⟨h1, h2, h3, ?_, fun hn => ?_⟩
  · by_cases q : (nt zFd l i).f0 = 1
    · rw [if_pos q] at h4; exact h4
    · rw [if_neg q] at h4; omega
  · rw [if_neg hn] at h4; exact h4
theorem items_length (s : Int) (i c : Nat) : (itemsOf s i c).length = c := by simp [itemsOf]
theorem items_succ (s : Int) (i c : Nat) : itemsOf s i (c + 1) = itemsOf s i c ++ [pickOf s (16 * (i : Int) + c + 1) 100] := by simp [itemsOf, List.range_succ]
theorem mkFrom_length (l : List Fd) (s : Int) : ∀ (d : Nat) (acc : List Va) (i : Nat), (mkFrom l s d acc i).length = acc.length + d := by
  intro d
  induction d with
  | zero => intro acc i; rfl
  | succ d ih => intro acc i; simp only [mkFrom]; rw [ih, List.length_append, List.length_singleton]; omega
theorem makeMsg_length {l : List Fd} {s : Int} (h : isFormat l = true) : (makeMsg l s).length = l.length := by
  unfold makeMsg; rw [if_pos h, mkFrom_length]; simp
theorem makeMsg_small (l : List Fd) (s : Int) : (makeMsg l s).length ≤ 6 := by
  unfold makeMsg
  split
  · rename_i h; rw [mkFrom_length]; have := (format_at h).1; simp; omega
  · simp
theorem fits_items {l : List Fd} {m : List Va} (h : fitsFormat l m = true) : isFormat l = true ∧ l.length = m.length ∧ ∀ i, i < l.length → (nt zVa m i).f1.length ≤ 99 := by
  unfold fitsFormat at h
  rw [Bool.and_eq_true, Bool.and_eq_true, decide_eq_true_eq, allFrom_iff] at h
  obtain ⟨h1, h2, h3⟩ := h
  refine ⟨h1, h2, fun i hi => ?_⟩
  have := h3 i (by omega) (by omega)
  have hf := (format_at h1).2 i hi
  unfold fitAt at this
  by_cases q : isThere l m i = true
  · rw [if_pos q] at this
    unfold fitsField at this
    split at this
    · simp only [Bool.and_eq_true, beq_iff_eq] at this; omega
    · split at this
      · simp only [Bool.and_eq_true, decide_eq_true_eq] at this; omega
      · split at this
        · simp only [Bool.and_eq_true, decide_eq_true_eq] at this; omega
        · simp at this
  · rw [if_neg q] at this
    simp only [Bool.and_eq_true, decide_eq_true_eq] at this; omega
theorem encAt_length {l : List Fd} {m : List Va} {i : Nat} (h : (nt zVa m i).f1.length ≤ 99) : (encAt l m i).length ≤ 100 := by
  unfold encAt
  split
  · split
    · simp
    · simp; omega
  · simp
theorem encFrom_length {l : List Fd} {m : List Va} (h : ∀ i, i < l.length → (nt zVa m i).f1.length ≤ 99) : ∀ d i, i + d = l.length → (encFrom l m d i).length ≤ 100 * d := by
  intro d
  induction d with
  | zero => intro i _; simp [encFrom]
  | succ d ih =>
    intro i hi
    simp only [encFrom]
    have h1 := ih (i + 1) (by omega)
    have h2 := encAt_length (l := l) (h i (by omega))
    rw [List.length_append]; omega
theorem makeBytes_length (l : List Fd) (s : Int) : (makeBytes l s).length ≤ 600 := by
  unfold makeBytes encodeMsg
  split
  · rename_i h
    obtain ⟨h1, h2, h3⟩ := fits_items h
    have := encFrom_length h3 l.length 0 (by omega)
    have := (format_at h1).1
    show (encFrom _ _ _ _).length ≤ 600; omega
  · simp
theorem mkVal_items {l : List Fd} {s : Int} (h : isFormat l = true) (acc : List Va) (i : Nat) : (mkVal l s acc i).f1.length ≤ 99 := by
  unfold mkVal
  split
  · rename_i q
    split
    · simp
    · have hi : i < l.length := by
        unfold isThere at q; rw [Bool.and_eq_true, decide_eq_true_eq] at q; exact q.1
      have hf := (format_at h).2 i hi
      have := pick_bound (a := s) (b := 16 * (i : Int)) (c := (nt zFd l i).f1 + 1) (by omega) (by omega)
      rw [items_length]; omega
  · simp
theorem mkFrom_items {l : List Fd} {s : Int} (h : isFormat l = true) : ∀ (d : Nat) (acc : List Va) (i : Nat), (∀ v ∈ acc, v.f1.length ≤ 99) → ∀ v ∈ mkFrom l s d acc i, v.f1.length ≤ 99 := by
  intro d
  induction d with
  | zero => intro acc i ha; exact ha
  | succ d ih =>
    intro acc i ha
    refine ih _ _ (fun v hv => ?_)
    rcases List.mem_append.1 hv with hv | hv
    · exact ha v hv
    · rw [List.mem_singleton.1 hv]; exact mkVal_items h acc i
theorem makeMsg_items (l : List Fd) (s : Int) (i : Nat) : (nt zVa (makeMsg l s) i).f1.length ≤ 99 := by
  by_cases hi : i < (makeMsg l s).length
  · have hm := nt_mem zVa (makeMsg l s) i hi
    revert hm
    generalize nt zVa (makeMsg l s) i = v
    unfold makeMsg
    split
    · rename_i h; exact fun hm => mkFrom_items h l.length [] 0 (by simp) v hm
    · intro hm; simp at hm
  · have : nt zVa (makeMsg l s) i = zVa := by unfold nt; rw [List.getD_eq_getElem?_getD, List.getElem?_eq_none (by omega)]; rfl
    rw [this]; exact Nat.zero_le _
theorem readVal_len {x : Fd} {b : List Int} {v : Va} {n : Nat} (h : readVal x b = some (v, n)) : n ≤ b.length ∧ 0 < n := by
  unfold readVal at h
  split at h
  · simp at h
  · split at h
    · split at h
      · simp only [Option.some.injEq, Prod.mk.injEq] at h; omega
      · simp at h
    · split at h
      · split at h
        · simp only [Option.some.injEq, Prod.mk.injEq] at h; omega
        · simp at h
      · simp at h

/-! ### T_eqMsgs -/
def sameVa (x y : Va) : Bool := decide (x.f0 = y.f0) && decide (x.f1 = y.f1)
def eqMsgs (a b : List Va) : Bool := decide (a.length = b.length) && allFrom (fun i => sameVa (nt zVa a i) (nt zVa b i)) 0 a.length
def skipsTail (l m : List Fd) (s : Int) : Bool := if (readPrefix l (makeBytes m s)).2 ≥ 0 ∧ (makeMsg m s).length ≥ (readPrefix l (makeBytes m s)).1.length then eqMsgs (readPrefix l (makeBytes m s)).1 ((makeMsg m s).take (readPrefix l (makeBytes m s)).1.length) else false
theorem rdFrom_length {l : List Fd} {b : List Int} : ∀ (d : Nat) (acc : List Va) (a i : Nat) (m : List Va) (n : Nat), rdFrom l b d acc a i = some (m, n) → m.length = acc.length + d := by
  intro d
  induction d with
  | zero =>
    intro acc a i m n h
    simp only [rdFrom, Option.some.injEq, Prod.mk.injEq] at h
    rw [← h.1]; rfl
  | succ d ih =>
    intro acc a i m n h
    simp only [rdFrom] at h
    split at h
    · split at h
      · simp at h
      · have := ih _ _ _ _ _ h; rw [List.length_append, List.length_singleton] at this; omega
    · have := ih _ _ _ _ _ h; rw [List.length_append, List.length_singleton] at this; omega
theorem readPrefix_length {l : List Fd} {b : List Int} (h : (readPrefix l b).2 ≥ 0) : (readPrefix l b).1.length = l.length := by
  unfold readPrefix at h ⊢
  split at h
  · rename_i hf
    rw [if_pos hf]
    cases e : rdFrom l b l.length [] 0 0 with
    | none => rw [e] at h; simp at h
    | some p => obtain ⟨m, n⟩ := p; have := rdFrom_length _ _ _ _ _ _ e; simpa using this
  · simp at h
theorem readPrefix_most (l : List Fd) (b : List Int) : (readPrefix l b).1.length ≤ 6 := by
  by_cases h : (readPrefix l b).2 ≥ 0
  · rw [readPrefix_length h]
    unfold readPrefix at h
    split at h
    · rename_i hf; exact (format_at hf).1
    · simp at h
  · unfold readPrefix at h ⊢
    split at h
    · rename_i hf
      rw [if_pos hf]
      cases e : rdFrom l b l.length [] 0 0 with
      | none => simp
      | some p => obtain ⟨m, n⟩ := p; rw [e] at h; exact absurd (show ((n : Nat) : Int) ≥ 0 by omega) h
    · rename_i hf; rw [if_neg hf]; simp
theorem readVal_items {x : Fd} {b : List Int} {v : Va} {n : Nat} (h : readVal x b = some (v, n)) : v.f1.length ≤ b.length := by
  unfold readVal at h
  split at h
  · simp at h
  · split at h
    · split at h
      · simp only [Option.some.injEq, Prod.mk.injEq] at h; rw [← h.1]; simp
      · simp at h
    · split at h
      · split at h
        · simp only [Option.some.injEq, Prod.mk.injEq] at h; rw [← h.1]; simp [List.length_take]; omega
        · simp at h
      · simp at h
theorem rdFrom_items {l : List Fd} {b : List Int} : ∀ (d : Nat) (acc : List Va) (a i : Nat) (m : List Va) (n : Nat), (∀ v ∈ acc, v.f1.length ≤ b.length) → rdFrom l b d acc a i = some (m, n) → ∀ v ∈ m, v.f1.length ≤ b.length := by
  intro d
  induction d with
  | zero =>
    intro acc a i m n ha h
    simp only [rdFrom, Option.some.injEq, Prod.mk.injEq] at h
    rw [← h.1]; exact ha
  | succ d ih =>
    intro acc a i m n ha h
    simp only [rdFrom] at h
    split at h
    · split at h
      · simp at h
      · rename_i v k e
        refine ih _ _ _ _ _ (fun w hw => ?_) h
        rcases List.mem_append.1 hw with hw | hw
        · exact ha w hw
        · rw [List.mem_singleton.1 hw]; have := readVal_items e; rw [List.length_drop] at this; omega
    · refine ih _ _ _ _ _ (fun w hw => ?_) h
      rcases List.mem_append.1 hw with hw | hw
      · exact ha w hw
      · rw [List.mem_singleton.1 hw]; exact Nat.zero_le _
theorem readPrefix_items (l : List Fd) (b : List Int) : ∀ v ∈ (readPrefix l b).1, v.f1.length ≤ b.length := by
  unfold readPrefix
  split
  · cases e : rdFrom l b l.length [] 0 0 with
    | none => intro v hv; simp at hv
    | some p => obtain ⟨m, n⟩ := p; exact rdFrom_items _ _ _ _ _ _ (by simp) e
  · intro v hv; simp at hv

/-! ### T_lost -/
def lostFrom (l m : List Fd) : Nat → Nat → Int
  | 0, _ => 0
  | d + 1, s => (if (decodeMsg m (makeBytes l (s : Int))).2 = true then 0 else 1) + lostFrom l m d (s + 1)
def lostBy (l m : List Fd) (n : Int) : Int := if 0 ≤ n ∧ n ≤ 50 ∧ isFormat l = true then lostFrom l m n.toNat 0 else 0

/-! ### T_reader -/
/-- What is written in the one format is read in the other: the places that the reader has. -/
def alike (W R : List Fd) : Prop := R.length ≤ W.length ∧ ∀ i, i < R.length → (nt zFd W i).f0 = (nt zFd R i).f0 ∧ (nt zFd W i).f2 = (nt zFd R i).f2 ∧ (nt zFd W i).f3 = (nt zFd R i).f3 ∧ (nt zFd W i).f1 ≤ (nt zFd R i).f1
theorem format_when {l : List Fd} (h : isFormat l = true) {i : Nat} (hi : i < l.length) : (nt zFd l i).f2 = -1 ∨ (0 ≤ (nt zFd l i).f2 ∧ (nt zFd l i).f2 ≤ (i : Int) - 1) := by
  unfold isFormat at h
  rw [Bool.and_eq_true, allFrom_iff] at h
  have := h.1 i (by omega) (by omega)
  unfold okFd at this
  rw [Bool.and_eq_true, Bool.and_eq_true] at this
  have h3 := this.2.2
  by_cases q : (nt zFd l i).f2 = -1
  · exact .inl q
  · rw [if_neg q, Bool.and_eq_true] at h3
    have := h3.1
    simp only [inB, Bool.and_eq_true, decide_eq_true_eq] at this
    exact .inr this
theorem nt_take {α : Type} (z : α) (l : List α) (n i : Nat) (h : i < n) (hl : i < l.length) : nt z (l.take n) i = nt z l i := by
  rw [nt_lt _ _ _ (show i < (l.take n).length by rw [List.length_take]; omega), nt_lt _ _ _ hl, List.getElem_take]
theorem take_snoc {α : Type} (z : α) (l : List α) (i : Nat) (h : i < l.length) : l.take i ++ [nt z l i] = l.take (i + 1) := by
  rw [List.take_add_one, nt_lt l z i h, List.getElem?_eq_getElem h]; rfl
theorem there_alike {W R : List Fd} {m : List Va} (hW : isFormat W = true) (ha : alike W R) (hm : m.length = W.length) {i : Nat} (hi : i < R.length) : isThere R (m.take i) i = isThere W m i := by
  obtain ⟨h1, h2⟩ := ha
  obtain ⟨a0, a2, a3, _⟩ := h2 i hi
  have hl : (m.take i).length = i := by rw [List.length_take]; omega
  unfold isThere
  rw [decide_eq_true hi, decide_eq_true (show i < W.length by omega), ← a2, ← a3, hl]
  rcases format_when hW (show i < W.length by omega) with q | ⟨q0, q1⟩
  · simp [q]
  · have e1 : inB (nt zFd W i).f2 0 ((i : Int) - 1) = true := by simp [inB]; omega
    have e2 : inB (nt zFd W i).f2 0 ((m.length : Int) - 1) = true := by simp [inB]; omega
    rw [e1, e2, nt_take zVa m i _ (by omega) (by omega)]
theorem alike_self (W : List Fd) : alike W W := ⟨Nat.le_refl _, fun _ _ => ⟨rfl, rfl, rfl, Int.le_refl _⟩⟩
theorem mkFrom_pre (W : List Fd) (s : Int) : ∀ (d : Nat) (acc : List Va) (i : Nat), (mkFrom W s d acc i).take acc.length = acc := by
  intro d
  induction d with
  | zero => intro acc i; exact List.take_length
  | succ d ih =>
    intro acc i
    have h := ih (acc ++ [mkVal W s acc i]) (i + 1)
    rw [List.length_append, List.length_singleton] at h
    simp only [mkFrom]
    have h2 : ((mkFrom W s d (acc ++ [mkVal W s acc i]) (i + 1)).take (acc.length + 1)).take acc.length = acc := by rw [h, List.take_left]
    rw [List.take_take, Nat.min_eq_left (by omega)] at h2
    exact h2
theorem mkFrom_at (W : List Fd) (s : Int) : ∀ (d : Nat) (acc : List Va) (i : Nat), acc.length = i → ∀ j, i ≤ j → j < i + d → nt zVa (mkFrom W s d acc i) j = mkVal W s ((mkFrom W s d acc i).take j) j := by
  intro d
  induction d with
  | zero => intro acc i _ j h1 h2; omega
  | succ d ih =>
    intro acc i ha j h1 h2
    by_cases q : j = i
    · subst q
      have hp := mkFrom_pre W s (d + 1) acc j
      have hp2 := mkFrom_pre W s d (acc ++ [mkVal W s acc j]) (j + 1)
      have hlen := mkFrom_length W s (d + 1) acc j
      rw [ha] at hp hlen
      rw [List.length_append, List.length_singleton, ha] at hp2
      rw [hp]
      have e : nt zVa ((mkFrom W s d (acc ++ [mkVal W s acc j]) (j + 1)).take (j + 1)) j = nt zVa (mkFrom W s d (acc ++ [mkVal W s acc j]) (j + 1)) j := nt_take zVa _ _ _ (by omega) (by have : (mkFrom W s d (acc ++ [mkVal W s acc j]) (j + 1)).length = j + (d + 1) := hlen; omega)
      rw [hp2] at e
      show nt zVa (mkFrom W s d (acc ++ [mkVal W s acc j]) (j + 1)) j = _
      rw [← e, ← ha]
      exact nt_at zVa acc [] _
    · exact ih (acc ++ [mkVal W s acc i]) (i + 1) (by rw [List.length_append, List.length_singleton, ha]) j (by omega) (by omega)
theorem make_at {W : List Fd} {s : Int} (h : isFormat W = true) {j : Nat} (hj : j < W.length) : nt zVa (makeMsg W s) j = mkVal W s ((makeMsg W s).take j) j := by
  unfold makeMsg
  rw [if_pos h]
  exact mkFrom_at W s W.length [] 0 rfl j (by omega) (by omega)
theorem nums_items (s : Int) (i c : Nat) (hi : Int) (h : 99 ≤ hi) : numsIn (itemsOf s i c) hi = true := by
  unfold numsIn itemsOf
  rw [List.all_eq_true]
  intro x hx
  obtain ⟨j, _, e⟩ := List.mem_map.1 hx
  have := pick_bound (a := s) (b := 16 * (i : Int) + (j : Int) + 1) (c := 100) (by omega) (by omega)
  rw [e] at this
  rw [decide_eq_true_eq]; omega
theorem make_fit {W : List Fd} {s : Int} (h : isFormat W = true) {j : Nat} (hj : j < W.length) : fitAt W (makeMsg W s) j = true := by
  have ht := there_alike (m := makeMsg W s) h (alike_self W) (makeMsg_length h) hj
  have hx := (format_at h).2 j hj
  have hp := pick_bound (a := s) (b := 16 * (j : Int)) (c := (nt zFd W j).f1 + 1) (by omega) (by omega)
  unfold fitAt
  rw [make_at h hj]
  unfold mkVal
  rw [ht]
  by_cases q : isThere W (makeMsg W s) j = true
  · rw [if_pos q, if_pos q]
    unfold fitsField
    by_cases q1 : (nt zFd W j).f0 = 1
    · rw [if_pos q1, if_pos q1]; simp [inB]; omega
    · rw [if_neg q1, if_neg q1]
      have hl : ((itemsOf s j (pickOf s (16 * (j : Int)) ((nt zFd W j).f1 + 1)).toNat).length : Int) ≤ (nt zFd W j).f1 := by rw [items_length]; omega
      by_cases q2 : (nt zFd W j).f0 = 2
      · rw [if_pos q2, nums_items _ _ _ _ (by omega), decide_eq_true hl]; rfl
      · rw [if_neg q2, if_pos (by omega), nums_items _ _ _ _ (by omega), decide_eq_true hl]; rfl
  · rw [if_neg q, if_neg q]; rfl
theorem make_fits {W : List Fd} {s : Int} (h : isFormat W = true) : fitsFormat W (makeMsg W s) = true := by
  unfold fitsFormat
  rw [h, decide_eq_true (makeMsg_length h).symm, Bool.true_and, Bool.true_and, allFrom_iff]
  exact fun i _ hi => make_fit h (by omega)
theorem fits_wider {x y : Fd} {v : Va} (h : fitsField x v = true) (h0 : x.f0 = y.f0) (h1 : x.f1 ≤ y.f1) : fitsField y v = true := by
  unfold fitsField at h ⊢
  rw [h0] at h
  by_cases q1 : y.f0 = 1
  · rw [if_pos q1] at h ⊢
    simp only [inB, Bool.and_eq_true, decide_eq_true_eq] at h ⊢
    exact ⟨⟨h.1.1, by omega⟩, h.2⟩
  · rw [if_neg q1] at h ⊢
    by_cases q2 : y.f0 = 2
    · rw [if_pos q2] at h ⊢
      simp only [Bool.and_eq_true, decide_eq_true_eq] at h ⊢
      exact ⟨h.1, by omega, h.2.2⟩
    · rw [if_neg q2] at h ⊢
      by_cases q3 : y.f0 = 3
      · rw [if_pos q3] at h ⊢
        simp only [Bool.and_eq_true, decide_eq_true_eq] at h ⊢
        exact ⟨h.1, by omega, h.2.2⟩
      · rw [if_neg q3] at h; simp at h
theorem readVal_enc {y : Fd} {v : Va} (h : fitsField y v = true) (rest : List Int) : readVal y ((if y.f0 = 1 then [v.f0] else (v.f1.length : Int) :: v.f1) ++ rest) = some (v, (if y.f0 = 1 then [v.f0] else (v.f1.length : Int) :: v.f1).length) := by
  obtain ⟨n, xs⟩ := v
  unfold readVal
  by_cases q1 : y.f0 = 1
  · have hx : xs = [] := by
      unfold fitsField at h
      rw [if_pos q1, Bool.and_eq_true, beq_iff_eq] at h
      have := h.2
      exact List.length_eq_zero_iff.1 (by simpa using this)
    subst hx
    simp only [if_pos q1]
    rw [if_neg (by simp)]
    show (if fitsField y ⟨n, []⟩ = true then some ((⟨n, []⟩ : Va), 1) else none) = _
    rw [if_pos h]; rfl
  · have hn : n = 0 := by
      unfold fitsField at h
      rw [if_neg q1] at h
      split at h
      · simp only [Bool.and_eq_true, decide_eq_true_eq] at h; exact h.1
      · split at h
        · simp only [Bool.and_eq_true, decide_eq_true_eq] at h; exact h.1
        · simp at h
    subst hn
    simp only [if_neg q1]
    have e0 : nt 0 (((xs.length : Int) :: xs) ++ rest) 0 = (xs.length : Int) := rfl
    have e1 : ((((xs.length : Int) :: xs) ++ rest).drop 1).take ((xs.length : Int)).toNat = xs := by
      rw [toNat_cast]; show (xs ++ rest).take xs.length = xs; exact List.take_left
    rw [if_neg (by simp), e0, e1, if_pos ⟨by omega, by simp; omega⟩, if_pos h, toNat_cast]
    simp [Nat.add_comm]
theorem read_all {W R : List Fd} {m : List Va} (hW : isFormat W = true) (ha : alike W R) (hm : m.length = W.length) (hf : ∀ j, j < W.length → fitAt W m j = true) (b : List Int) : ∀ (d i a : Nat), i + d = R.length → a ≤ b.length → b.drop a = encFrom W m (W.length - i) i → ∃ a', rdFrom R b d (m.take i) a i = some (m.take R.length, a') ∧ a' ≤ b.length ∧ b.drop a' = encFrom W m (W.length - R.length) R.length := by
  have h1 := ha.1
  intro d
  induction d with
  | zero =>
    intro i a hi hab he
    obtain rfl : i = R.length := by omega
    exact ⟨a, rfl, hab, he⟩
  | succ d ih =>
    intro i a hi hab he
    have hiR : i < R.length := by omega
    obtain ⟨a0, _, _, a1⟩ := ha.2 i hiR
    have ht := there_alike hW ha hm hiR
    have hfi := hf i (by omega)
    obtain ⟨n, hn⟩ : ∃ n, W.length - i = n + 1 := ⟨W.length - i - 1, by omega⟩
    rw [hn] at he
    simp only [encFrom] at he
    rw [show n = W.length - (i + 1) by omega] at he
    simp only [rdFrom]
    rw [ht]
    unfold fitAt at hfi
    unfold encAt at he
    by_cases q : isThere W m i = true
    · rw [if_pos q] at hfi he ⊢
      have hr := readVal_enc (fits_wider hfi a0 a1) (encFrom W m (W.length - (i + 1)) (i + 1))
      rw [a0] at he
      rw [he, hr]
      dsimp only
      rw [take_snoc zVa m i (by omega)]
      refine ih (i + 1) _ (by omega) ?_ ?_
      · have := congrArg List.length he
        rw [List.length_drop, List.length_append] at this
        omega
      · rw [← List.drop_drop, he, List.drop_left]
    · rw [if_neg q] at hfi he ⊢
      rw [List.nil_append] at he
      have hz : nt zVa m i = ⟨0, []⟩ := by
        rw [Bool.and_eq_true, decide_eq_true_eq, decide_eq_true_eq] at hfi
        revert hfi
        generalize nt zVa m i = v
        intro hfi
        obtain ⟨n, xs⟩ := v
        obtain ⟨e1, e2⟩ := hfi
        have e3 : xs = [] := List.length_eq_zero_iff.1 e2
        have e4 : n = 0 := e1
        rw [e3, e4]
      rw [← hz, take_snoc zVa m i (by omega)]
      exact ih (i + 1) a (by omega) hab he
theorem bytes_of {W : List Fd} {s : Int} (hW : isFormat W = true) : makeBytes W s = encFrom W (makeMsg W s) W.length 0 := by
  unfold makeBytes encodeMsg
  rw [if_pos (make_fits hW)]
theorem decode_wider {W R : List Fd} {s : Int} (hW : isFormat W = true) (hR : isFormat R = true) (ha : alike W R) (hl : W.length = R.length) : decodeMsg R (makeBytes W s) = (makeMsg W s, true) := by
  obtain ⟨a', h1, h2, h3⟩ := read_all (m := makeMsg W s) hW ha (makeMsg_length hW) (fun j hj => make_fit hW hj) (makeBytes W s) R.length 0 0 (by omega) (by omega) (by rw [bytes_of hW]; rfl)
  rw [hl, Nat.sub_self] at h3
  have h4 : (makeBytes W s).length - a' = 0 := by rw [← List.length_drop, h3]; rfl
  have h5 : (makeMsg W s).take R.length = makeMsg W s := List.take_of_length_le (by rw [makeMsg_length hW]; omega)
  have hr : readPrefix R (makeBytes W s) = (makeMsg W s, ((makeBytes W s).length : Int)) := by
    unfold readPrefix
    rw [if_pos hR, show rdFrom R (makeBytes W s) R.length [] 0 0 = _ from h1, h5, show a' = (makeBytes W s).length by omega]
  unfold decodeMsg
  rw [hr, if_pos rfl]
theorem eqMsgs_self (a : List Va) : eqMsgs a a = true := by
  unfold eqMsgs
  rw [decide_eq_true rfl, Bool.true_and, allFrom_iff]
  intro i _ _
  simp [sameVa]
theorem skips_tail {W R : List Fd} {s : Int} (hW : isFormat W = true) (hR : isFormat R = true) (ha : alike W R) : skipsTail R W s = true := by
  obtain ⟨a', h1, h2, h3⟩ := read_all (m := makeMsg W s) hW ha (makeMsg_length hW) (fun j hj => make_fit hW hj) (makeBytes W s) R.length 0 0 (by omega) (by omega) (by rw [bytes_of hW]; rfl)
  have hl := ha.1
  have hm := makeMsg_length (s := s) hW
  have hr : readPrefix R (makeBytes W s) = ((makeMsg W s).take R.length, (a' : Int)) := by
    unfold readPrefix
    rw [if_pos hR, show rdFrom R (makeBytes W s) R.length [] 0 0 = _ from h1]
  have ht : ((makeMsg W s).take R.length).length = R.length := by rw [List.length_take]; omega
  unfold skipsTail
  rw [hr]
  dsimp only
  rw [ht, if_pos ⟨by omega, by omega⟩, eqMsgs_self]
theorem lost_none {W R : List Fd} {n : Int} (hW : isFormat W = true) (hR : isFormat R = true) (ha : alike W R) (hl : W.length = R.length) : lostBy W R n = 0 := by
  have h : ∀ d s, lostFrom W R d s = 0 := by
    intro d
    induction d with
    | zero => intro s; rfl
    | succ d ih =>
      intro s
      simp only [lostFrom]
      rw [decode_wider hW hR ha hl, ih]; rfl
  unfold lostBy
  rw [h]; split <;> rfl

/-! ### T_breaks -/
theorem within_facts {l m : List Fd} (h : isWithin l m = true) : isFormat l = true ∧ isFormat m = true ∧ l.length = m.length ∧ alike l m := by
  unfold isWithin at h
  rw [Bool.and_eq_true, Bool.and_eq_true, Bool.and_eq_true, decide_eq_true_eq, allFrom_iff] at h
  obtain ⟨h1, h2, h3, h4⟩ := h
  refine ⟨h1, h2, h3, by omega, fun i hi => ?_⟩
  have := h4 i (by omega) (by omega)
  simp only [withinFd, Bool.and_eq_true, beq_iff_eq, decide_eq_true_eq] at this
  exact ⟨this.1, this.2.1, this.2.2.1, this.2.2.2⟩
theorem eqFds_facts {l m : List Fd} (h : eqFds l m = true) : l.length = m.length ∧ ∀ i, i < l.length → (nt zFd l i).f0 = (nt zFd m i).f0 ∧ (nt zFd l i).f1 = (nt zFd m i).f1 ∧ (nt zFd l i).f2 = (nt zFd m i).f2 ∧ (nt zFd l i).f3 = (nt zFd m i).f3 := by
  unfold eqFds at h
  rw [Bool.and_eq_true, decide_eq_true_eq, allFrom_iff] at h
  refine ⟨h.1, fun i hi => ?_⟩
  have := h.2 i (by omega) (by omega)
  simp only [sameFd, Bool.and_eq_true, beq_iff_eq] at this
  exact ⟨this.1, this.2.1, this.2.2.1, this.2.2.2⟩
theorem eqFds_of {l m : List Fd} (h0 : l.length = m.length) (h : ∀ i, i < l.length → (nt zFd l i).f0 = (nt zFd m i).f0 ∧ (nt zFd l i).f1 = (nt zFd m i).f1 ∧ (nt zFd l i).f2 = (nt zFd m i).f2 ∧ (nt zFd l i).f3 = (nt zFd m i).f3) : eqFds l m = true := by
  unfold eqFds
  rw [Bool.and_eq_true, decide_eq_true_eq, allFrom_iff]
  refine ⟨h0, fun i _ hi => ?_⟩
  have := h i (by omega)
  simp only [sameFd, Bool.and_eq_true, beq_iff_eq]
  exact ⟨this.1, this.2.1, this.2.2.1, this.2.2.2⟩
theorem eqFds_symm {l m : List Fd} (h : eqFds l m = true) : eqFds m l = true := by
  obtain ⟨h0, h1⟩ := eqFds_facts h
  exact eqFds_of h0.symm (fun i hi => by have := h1 i (by omega); exact ⟨this.1.symm, this.2.1.symm, this.2.2.1.symm, this.2.2.2.symm⟩)
theorem within_both {l m : List Fd} (h : isWithin l m = true) (h2 : isWithin m l = true) : eqFds l m = true := by
  obtain ⟨_, _, e, _, a⟩ := within_facts h
  obtain ⟨_, _, _, _, b⟩ := within_facts h2
  exact eqFds_of e (fun i hi => by
    have h1 := a i (by omega)
    have h2 := b i (by omega)
    exact ⟨h1.1, by omega, h1.2.1, h1.2.2.1⟩)
theorem break_range (l m : List Fd) : 0 ≤ breakOf l m ∧ breakOf l m ≤ 4 := by
  unfold breakOf
  repeat' split
  all_goals omega
theorem break_none (l m : List Fd) : (breakOf l m == 0) = (isFormat l && eqFds l m) ∨ isFormat m = false := by
  unfold breakOf
  cases isFormat m with
  | false => exact .inr rfl
  | true =>
    refine .inl ?_
    cases isFormat l with
    | false => rfl
    | true =>
      rw [if_neg (by simp)]
      cases eqFds l m with
      | true => rfl
      | false =>
        rw [if_neg (by simp)]
        repeat' split
        all_goals rfl
theorem break_wider {l m : List Fd} (h : breakOf l m = 1) : breakOf m l = 3 := by
  unfold breakOf at h ⊢
  split at h
  · omega
  · rename_i hf
    split at h
    · omega
    · rename_i he
      split at h
      · rename_i hw
        obtain ⟨f1, f2, _⟩ := within_facts hw
        rw [if_neg (by rw [f1, f2]; simp), if_neg (fun q => he (eqFds_symm q)), if_neg (fun q => he (within_both hw q)), if_pos hw]
      · split at h
        · omega
        · split at h
          · split at h <;> omega
          · omega
theorem break_narrower {l m : List Fd} (h : breakOf l m = 3) : breakOf m l = 1 := by
  unfold breakOf at h ⊢
  split at h
  · omega
  · rename_i hf
    split at h
    · omega
    · rename_i he
      split at h
      · omega
      · split at h
        · rename_i hw
          obtain ⟨f1, f2, _⟩ := within_facts hw
          rw [if_neg (by rw [f1, f2]; simp), if_neg (fun q => he (eqFds_symm q)), if_pos hw]
        · split at h
          · split at h <;> omega
          · omega
theorem break_tail {l m : List Fd} (h : breakOf l m = 2) : isFormat l = true ∧ isFormat m = true ∧ l.length < m.length := by
  unfold breakOf at h
  split at h
  · omega
  · rename_i hf
    have hf2 : (isFormat l && isFormat m) = true := by revert hf; cases (isFormat l && isFormat m) <;> simp
    rw [Bool.and_eq_true] at hf2
    split at h
    · omega
    · split at h
      · omega
      · split at h
        · omega
        · split at h
          · rename_i q; exact ⟨hf2.1, hf2.2, q⟩
          · omega
theorem tail_alike {l m : List Fd} (h : l.length < m.length) (he : eqFds l (m.take l.length) = true) : alike m l := by
  obtain ⟨_, h1⟩ := eqFds_facts he
  refine ⟨by omega, fun i hi => ?_⟩
  have := h1 i hi
  rw [nt_take zFd m _ _ hi (by omega)] at this
  exact ⟨this.1.symm, this.2.2.1.symm, this.2.2.2.symm, by omega⟩
theorem eqFds_eq {l m : List Fd} (h : eqFds l m = true) : l = m := by
  obtain ⟨h0, h1⟩ := eqFds_facts h
  refine List.ext_getElem h0 (fun i a b => ?_)
  have := h1 i a
  rw [nt_lt _ _ _ a, nt_lt _ _ _ b] at this
  revert this
  generalize l[i] = x
  generalize m[i] = y
  intro this
  obtain ⟨x0, x1, x2, x3⟩ := x
  obtain ⟨y0, y1, y2, y3⟩ := y
  obtain ⟨e0, e1, e2, e3⟩ := this
  have e0' : x0 = y0 := e0
  have e1' : x1 = y1 := e1
  have e2' : x2 = y2 := e2
  have e3' : x3 = y3 := e3
  rw [e0', e1', e2', e3']
theorem break_zero (l m : List Fd) : (breakOf l m == 0) = (isFormat l && eqFds l m) := by
  rcases break_none l m with h | h
  · exact h
  · have hb : breakOf l m = 4 := by unfold breakOf; rw [if_pos (by rw [h]; simp)]
    rw [hb]
    cases e : eqFds l m with
    | false => simp
    | true => rw [← eqFds_eq e] at h; rw [h]; rfl

/-! ### impl_EqualFormats -/
theorem impl_EqualFormats_eq {a b : List Fd} {k : Nat} (hl : a.length ≤ 1048576) (hk : a.length < k) : impl_EqualFormats.f k a b = some (eqFds a b) := by
  unfold impl_EqualFormats.f impl_Field.f eqFds
  by_cases e : a.length = b.length
  · rw [if_pos (by omega), decide_eq_true e]
    have h := all_loop (g := fun k i => impl_Field.l0 k a b (a.length : Int) (i : Int)) (n := a.length) (B := 0) (ok := fun i => sameFd (nt zFd a i) (nt zFd b i)) (fin := true) (fun k => by
        simp only [impl_Field.l0]; rw [if_neg (by omega)])
      (fun k i hi _ => by
        simp only [impl_Field.l0]
        rw [if_pos (by omega), if_pos (by omega), if_pos (by omega), if_pos (by omega), rd_Fd, rd_Fd, wrap_up (n := a.length) hi (by omega), sameFd_not]
        cases sameFd (nt zFd a i) (nt zFd b i) <;> simp) a.length k 0 (by omega) (by omega)
    rw [show impl_Field.l0 k a b (a.length : Int) 0 = _ from h]; simp
  · rw [if_neg (by omega), decide_eq_false e]; rfl

/-! ### impl_InRange -/
theorem impl_InRange_eq (a b c : Int) : impl_InRange.f a b c = some (decide (b ≤ a ∧ a ≤ c)) := by
  unfold impl_InRange.f
  by_cases h : b ≤ a
  · rw [if_pos h]; simp [h]
  · rw [if_neg h, decide_eq_false (by omega)]

/-! ### impl_IsFormat -/
theorem impl_isField_eq {l : List Fd} {i k : Nat} (hi : i < l.length) (hl : l.length ≤ 1048576) (hk : 3 < k) : impl_isField.f k (nt zFd l i).f0 (nt zFd l i).f1 (nt zFd l i).f2 (nt zFd l i).f3 (l.take i) = some (okFd l i) := by
  obtain ⟨k, rfl⟩ : ∃ m, k = m + 2 := ⟨k - 2, by omega⟩
  have ht : (l.take i).length = i := by rw [List.length_take]; omega
  have hj : ∀ m, impl_isField.j0 (k + 2) (l.take i) m (nt zFd l i).f0 (nt zFd l i).f1 (nt zFd l i).f2 (nt zFd l i).f3 = some (inB (nt zFd l i).f0 1 3 && (inB (nt zFd l i).f1 1 m && (if (nt zFd l i).f2 = -1 then (nt zFd l i).f3 == 0 else
      inB (nt zFd l i).f2 0 ((i : Int) - 1) && (decide ((nt zFd l (nt zFd l i).f2.toNat).f0 = 1) && (decide ((nt zFd l (nt zFd l i).f2.toNat).f2 = -1) && inB (nt zFd l i).f3 0 (nt zFd l (nt zFd l i).f2.toNat).f1))))) := by
    intro m
    simp only [impl_isField.j0, impl_InRange_eq, inB_dec, Option.bind_some, impl_isField.j1]
    by_cases b1 : inB (nt zFd l i).f0 1 3 = true
    · rw [if_pos b1, b1]
      by_cases b2 : inB (nt zFd l i).f1 1 m = true
      · rw [b2, if_neg (by simp)]
        by_cases b3 : (nt zFd l i).f2 = -1
        · rw [if_pos b3, if_pos b3]; rfl
        · rw [if_neg b3, if_neg b3, ht, wrap_id (x := (i : Int) - 1) (by omega) (by omega)]
          by_cases b4 : inB (nt zFd l i).f2 0 ((i : Int) - 1) = true
          · have hb : 0 ≤ (nt zFd l i).f2 ∧ (nt zFd l i).f2 ≤ (i : Int) - 1 := by simpa [inB] using b4
            have hn : nt zFd (l.take i) (nt zFd l i).f2.toNat = nt zFd l (nt zFd l i).f2.toNat := by
              have h1 : (nt zFd l i).f2.toNat < (l.take i).length := by omega
              have h2 : (nt zFd l i).f2.toNat < l.length := by omega
              exact (nt_lt _ zFd _ h1).trans (List.getElem_take.trans (nt_lt _ zFd _ h2).symm)
            rw [if_pos b4, if_pos hb.1, if_pos (by omega), rd_FdI, b4, hn]
            by_cases b5 : (nt zFd l (nt zFd l i).f2.toNat).f0 = 1
            · rw [if_pos b5, decide_eq_true b5]
              by_cases b6 : (nt zFd l (nt zFd l i).f2.toNat).f2 = -1
              · rw [if_pos b6, decide_eq_true b6]; rfl
              · rw [if_neg b6, decide_eq_false b6]; rfl
            · rw [if_neg b5, decide_eq_false b5]; rfl
          · rw [if_neg b4]; simp [b4]
      · rw [if_pos (by simp [b2])]; simp [b2]
    · rw [if_neg b1, if_pos trivial]; simp [b1]
  unfold impl_isField.f okFd
  rw [hj, hj]
  by_cases b0 : (nt zFd l i).f0 = 1
  · rw [if_pos b0, if_pos b0]
  · rw [if_neg b0, if_neg b0]
theorem impl_IsFormat_eq {l : List Fd} {k : Nat} (hl : l.length ≤ 1048576) (hk : l.length + 4 < k) : impl_IsFormat.f k l = some (isFormat l) := by
  unfold impl_IsFormat.f isFormat
  exact all_loop (g := fun k i => impl_IsFormat.l0 k l l (l.length : Int) (i : Int)) (n := l.length) (B := 4) (fun k => by
      simp only [impl_IsFormat.l0]; rw [if_neg (by omega), impl_InRange_eq, inB_dec]; rfl)
    (fun k i hi hk => by
      simp only [impl_IsFormat.l0]
      rw [if_pos (by omega), if_pos (by omega), if_pos (by omega), if_pos (by omega), rd_Fd, toNat_cast, impl_isField_eq hi hl (by omega), wrap_up (n := l.length) hi (by omega), Option.bind_some]) l.length k 0 (by omega) (by omega)

/-! ### impl_IsWithin -/
theorem impl_IsWithin_eq {l m : List Fd} {k : Nat} (hl : l.length ≤ 1048576) (hm : m.length ≤ 1048576) (hk : 4000000 < k) : impl_IsWithin.f k l m = some (isWithin l m) := by
  unfold impl_IsWithin.f isWithin
  rw [impl_IsFormat_eq hl (by omega), Option.bind_some, impl_IsFormat_eq hm (by omega), Option.bind_some]
  obtain ⟨k, rfl⟩ := succ_of hk
  simp only [impl_IsWithin.j0]
  cases isFormat l with
  | false => simp
  | true =>
    cases isFormat m with
    | false => simp
    | true =>
      rw [if_pos rfl, if_pos rfl]
      by_cases h : l.length = m.length
      · rw [if_neg (by simp [h])]
        have q := all_loop (g := fun k i => impl_IsWithin.l0 k m l (l.length : Int) (i : Int)) (n := l.length) (B := 0) (ok := fun i => withinFd (nt zFd l i) (nt zFd m i)) (fin := true) (fun k => by
            simp only [impl_IsWithin.l0]; rw [if_neg (by omega)])
          (fun k i hi _ => by
            simp only [impl_IsWithin.l0]
            rw [if_pos (by omega), if_pos (by omega), if_pos (by omega), if_pos (by omega), rd_Fd, rd_Fd, wrap_up (n := l.length) hi (by omega)]
            by_cases b4 : (nt zFd l i).f1 > (nt zFd m i).f1
            · rw [if_pos b4, if_neg (by simp [withinFd]; omega)]
            · rw [if_neg b4]
              by_cases b : (nt zFd l i).f0 = (nt zFd m i).f0 ∧ (nt zFd l i).f2 = (nt zFd m i).f2 ∧ (nt zFd l i).f3 = (nt zFd m i).f3
              · rw [if_neg (by simp [b.1, b.2.1, b.2.2]), if_pos (by simp [withinFd, b.1, b.2.1, b.2.2]; omega)]
              · rw [if_pos (by simp; omega), if_neg (by simp [withinFd]; omega)]) l.length k 0 (by omega) (by omega)
        simpa [h] using q
      · rw [if_pos (by simp; omega)]; simp [h]

/-! ### impl_BreakOf -/
theorem impl_BreakOf_eq {l m : List Fd} {k : Nat} (hl : l.length ≤ 1048576) (hm : m.length ≤ 1048576) (hk : 4000001 < k) : impl_BreakOf.f k l m = some (breakOf l m) := by
  unfold impl_BreakOf.f
  rw [impl_IsFormat_eq hl (by omega), Option.bind_some, impl_IsFormat_eq hm (by omega), Option.bind_some]
  obtain ⟨k, rfl⟩ := succ_of hk
  have J : ∀ b, impl_BreakOf.j0 (k + 1) l m b = some (if b = true then 4 else if eqFds l m = true then 0 else if isWithin l m = true then 1 else if isWithin m l = true then 3 else if l.length < m.length then (if isWithin l (m.take l.length) = true then 2 else 4) else 4) := by
    intro b
    simp only [impl_BreakOf.j0]
    have ht : (m.take l.length).length ≤ 1048576 := by rw [List.length_take]; omega
    rw [impl_EqualFormats_eq hl (by omega), impl_IsWithin_eq hl hm (by omega), impl_IsWithin_eq hm hl (by omega), toNat_cast, impl_IsWithin_eq hl ht (by omega)]
    simp only [Option.bind_some]
    cases b with
    | true => rfl
    | false =>
      cases eqFds l m with
      | true => rfl
      | false =>
        cases isWithin l m with
        | true => rfl
        | false =>
          cases isWithin m l with
          | true => rfl
          | false =>
            simp only [Bool.false_eq_true, if_false]
            by_cases q : l.length < m.length
            · rw [if_pos (by omega), if_pos (by omega), if_pos (by omega), if_pos q]
              cases isWithin l (m.take l.length) <;> rfl
            · rw [if_neg (by omega), if_neg q]
  simp only [J]
  unfold breakOf
  cases isFormat l <;> cases isFormat m <;> rfl

/-! ### impl_IsThere -/
theorem impl_IsThere_eq {l : List Fd} {m : List Va} {i : Nat} (hl : l.length ≤ 1048576) (hm : m.length ≤ 1048576) : impl_IsThere.f l m (i : Int) = some (isThere l m i) := by
  unfold impl_IsThere.f isThere
  rw [impl_InRange_eq, Option.bind_some, wrap_id (x := (l.length : Int) - 1) (by omega) (by omega)]
  by_cases h : i < l.length
  · rw [if_pos (by simp; omega), if_pos (by omega), if_pos (by omega), rd_Fd, impl_InRange_eq, Option.bind_some, wrap_id (x := (m.length : Int) - 1) (by omega) (by omega), inB_dec, decide_eq_true h]
    by_cases q : (nt zFd l i).f2 = -1
    · rw [if_pos q]; simp [q]
    · rw [if_neg q]
      by_cases b : inB (nt zFd l i).f2 0 ((m.length : Int) - 1) = true
      · have hb : 0 ≤ (nt zFd l i).f2 ∧ (nt zFd l i).f2 ≤ (m.length : Int) - 1 := by simpa [inB] using b
        rw [if_pos b, if_pos hb.1, if_pos (by omega), rd_VaI]; simp [q, b]
      · rw [if_neg b]; simp [q, b]
  · rw [if_neg (by simp; omega)]; simp [h]

/-! ### impl_Mod -/
theorem impl_Mod_eq (a b : Int) : impl_Mod.f a b = some (modOf a b) := by
  unfold impl_Mod.f modOf
  rw [impl_InRange_eq, Option.bind_some]
  by_cases h : (1 : Int) ≤ b ∧ b ≤ 1000000000000
  · rw [decide_eq_true h, if_pos rfl, if_neg (by omega), if_pos h]
  · rw [decide_eq_false h, if_neg (by simp), if_neg h]

/-! ### impl_Hash -/
theorem impl_Hash_eq {l : List Int} {k : Nat} (hl : l.length ≤ 9223372036854775807) (hk : l.length < k) : impl_Hash.f k l = some (hashOf l) := by
  unfold impl_Hash.f
  have h := fold_loop (g := fun k s i => impl_Hash.l0 k s l (l.length : Int) (i : Int)) (n := l.length) (B := 0) (f := fun i s => hashStep s (nt 0 l i)) (fin := id) (fun _ _ => True) (fun k s _ => by
      simp only [impl_Hash.l0]; rw [if_neg (by omega)]; rfl)
    (fun k i s hi _ _ => by
      refine ⟨?_, trivial⟩
      simp only [impl_Hash.l0]
      rw [if_pos (by omega), if_pos (by omega), if_pos (by omega), wrap_up (n := l.length) hi hl, rd_cast, impl_Mod_eq, Option.bind_some]; rfl) l.length k 0 11 (by omega) (by omega) trivial
  rw [foldFrom_list (f := hashStep)] at h
  exact h

/-! ### impl_PickOf -/
theorem impl_PickOf_eq {a b c : Int} {k : Nat} (hk : 2 < k) : impl_PickOf.f k a b c = some (pickOf a b c) := by
  unfold impl_PickOf.f pickOf
  rw [impl_Hash_eq (by simp) (by simpa using hk), Option.bind_some, impl_Mod_eq, Option.bind_some]
  by_cases h : c < 1
  · rw [if_pos h, if_pos h]
  · rw [if_neg h, if_neg h]

/-! ### impl_MakeMessage -/
theorem impl_MakeMessage_l1 {l : List Fd} {s : Int} {acc : List Va} {i D : Nat} {R : Option (List Va)} {P : Nat} (hi : i ≤ 6) (ha : acc.length ≤ 6) (hP : P ≤ 99) (hn : ∀ k, D < k → impl_MakeMessage.l0 k l s (acc ++ [⟨0, itemsOf s i P⟩]) l (l.length : Int) ((i + 1 : Nat) : Int) = R) : ∀ (c k j : Nat), j + c = P → D + c + 5 < k → impl_MakeMessage.l1 k l s acc (i : Int) l (l.length : Int) (i : Int) (P : Int) (j : Int) 0 (itemsOf s i j) = R := by
  intro c
  induction c with
  | zero =>
    intro k j hj hk
    obtain ⟨k, rfl⟩ := succ_of hk
    obtain rfl : j = P := by omega
    simp only [impl_MakeMessage.l1]
    rw [if_neg (by omega), if_pos (by omega), wrap_id (x := (i : Int) + 1) (by omega) (by omega), show (i : Int) + 1 = ((i + 1 : Nat) : Int) by omega]
    exact hn k (by omega)
  | succ c ih =>
    intro k j hj hk
    obtain ⟨k, rfl⟩ := succ_of hk
    simp only [impl_MakeMessage.l1]
    rw [if_pos (by omega), impl_PickOf_eq (by omega), Option.bind_some, if_pos (by rw [items_length]; omega), wrap_id (x := 16 * (i : Int)) (by omega) (by omega), wrap_id (x := 16 * (i : Int) + (j : Int)) (by omega) (by omega), wrap_id (x := 16 * (i : Int) + (j : Int) + 1) (by omega) (by omega), ← items_succ, wrap_id (x := (j : Int) + 1) (by omega) (by omega), show (j : Int) + 1 = ((j + 1 : Nat) : Int) by omega]
    exact ih k (j + 1) (by omega) (by omega)
theorem impl_MakeMessage_l0 {l : List Fd} {s : Int} (hf : isFormat l = true) : ∀ (d k i : Nat) (acc : List Va), i + d = l.length → acc.length = i → 120 * d + 60 < k → impl_MakeMessage.l0 k l s acc l (l.length : Int) (i : Int) = some (mkFrom l s d acc i) := by
  have h6 := (format_at hf).1
  intro d
  induction d with
  | zero =>
    intro k i acc h ha hk
    obtain ⟨k, rfl⟩ := succ_of hk
    simp only [impl_MakeMessage.l0]
    rw [if_neg (by omega)]; rfl
  | succ d ih =>
    intro k i acc h ha hk
    obtain ⟨k, rfl⟩ := succ_of hk
    have hx := (format_at hf).2 i (by omega)
    have hp := pick_bound (a := s) (b := 16 * (i : Int)) (c := (nt zFd l i).f1 + 1) (by omega) (by omega)
    simp only [impl_MakeMessage.l0, mkFrom, mkVal]
    rw [if_pos (by omega), if_pos (by omega), if_pos (by omega), rd_Fd, impl_PickOf_eq (by omega), Option.bind_some, impl_IsThere_eq (by omega) (by omega), Option.bind_some, wrap_id (x := 16 * (i : Int)) (by omega) (by omega), wrap_id (x := (nt zFd l i).f1 + 1) (by omega) (by omega), wrap_up (n := l.length) (by omega) (by omega)]
    by_cases q : isThere l acc i = true
    · rw [if_pos q, if_pos q]
      by_cases q1 : (nt zFd l i).f0 = 1
      · rw [if_pos q1, if_pos q1, if_pos (by omega)]
        exact ih k (i + 1) _ (by omega) (by rw [List.length_append, List.length_singleton]; omega) (by omega)
      · rw [if_neg q1, if_neg q1]
        obtain ⟨P, hP⟩ : ∃ P : Nat, pickOf s (16 * (i : Int)) ((nt zFd l i).f1 + 1) = P := ⟨(pickOf s (16 * (i : Int)) ((nt zFd l i).f1 + 1)).toNat, by omega⟩
        rw [hP] at hp ⊢
        rw [toNat_cast]
        exact impl_MakeMessage_l1 (D := 120 * d + 60) (by omega) (by omega) (by omega) (fun k hk => ih k (i + 1) _ (by omega) (by rw [List.length_append, List.length_singleton]; omega) hk) P k 0 (by omega) (by omega)
    · rw [if_neg q, if_neg q, if_pos (by omega)]
      exact ih k (i + 1) _ (by omega) (by rw [List.length_append, List.length_singleton]; omega) (by omega)
theorem impl_MakeMessage_eq {l : List Fd} {s : Int} {k : Nat} (hl : l.length ≤ 1048576) (hk : l.length + 1000 < k) : impl_MakeMessage.f k l s = some (makeMsg l s) := by
  unfold impl_MakeMessage.f makeMsg
  rw [Option.bind_some, impl_IsFormat_eq hl (by omega), Option.bind_some]
  by_cases q : isFormat l = true
  · have h6 := (format_at q).1
    rw [if_pos q, if_pos q]
    exact impl_MakeMessage_l0 q l.length k 0 [] (by omega) rfl (by omega)
  · rw [if_neg q, if_neg q]

/-! ### impl_FitsField -/
theorem impl_areNumbers_eq (l : List Int) (hi : Int) : impl_areNumbers.f l 0 hi = some (numsIn l hi) := by
  unfold impl_areNumbers.f impl_areNumbers_any.f numsIn
  rw [Option.bind_some, List.not_any_eq_all_not]
  simp
theorem impl_FitsField_eq (x : Fd) (v : Va) : impl_FitsField.f x.f0 x.f1 x.f2 x.f3 v.f0 v.f1 = some (fitsField x v) := by
  unfold impl_FitsField.f fitsField
  rw [impl_InRange_eq, Option.bind_some, impl_areNumbers_eq, impl_areNumbers_eq, Option.bind_some, Option.bind_some, inB_dec]
  by_cases h1 : x.f0 = 1
  · rw [if_pos h1, if_pos h1]
    by_cases b : inB v.f0 0 x.f1 = true
    · rw [if_pos b, b]; rfl
    · rw [if_neg b]; simp [b]
  · rw [if_neg h1, if_neg h1]
    by_cases h2 : x.f0 = 2
    · rw [if_pos h2, if_pos h2]
      by_cases a : v.f0 = 0
      · rw [if_pos a]
        by_cases b : (v.f1.length : Int) ≤ x.f1
        · rw [if_pos b]; simp [a, b]
        · rw [if_neg b]; simp [b]
      · rw [if_neg a]; simp [a]
    · rw [if_neg h2, if_neg h2]
      by_cases h3 : x.f0 = 3
      · rw [if_pos h3, if_pos h3]
        by_cases a : v.f0 = 0
        · rw [if_pos a]
          by_cases b : (v.f1.length : Int) ≤ x.f1
          · rw [if_pos b]; simp [a, b]
          · rw [if_neg b]; simp [b]
        · rw [if_neg a]; simp [a]
      · rw [if_neg h3, if_neg h3]

/-! ### impl_FitsFormat -/
theorem impl_FitsFormat_eq {l : List Fd} {m : List Va} {k : Nat} (hl : l.length ≤ 1048576) (hm : m.length ≤ 1048576) (hk : l.length + 6 < k) : impl_FitsFormat.f k l m = some (fitsFormat l m) := by
  obtain ⟨k, rfl⟩ := succ_of hk
  unfold impl_FitsFormat.f fitsFormat
  rw [impl_IsFormat_eq hl (by omega), Option.bind_some]
  have hj : impl_FitsFormat.j0 (k + 1) l m true = some false := by simp only [impl_FitsFormat.j0, if_true]
  cases isFormat l with
  | false => rw [if_neg (by simp), hj]; rfl
  | true =>
    rw [if_pos rfl]
    by_cases e : l.length = m.length
    · have e' : ((l.length : Int) != (m.length : Int)) = false := by rw [bne_eq_false_iff_eq]; omega
      rw [e', decide_eq_true e]
      simp only [impl_FitsFormat.j0]
      rw [if_neg (by simp)]
      have h := all_loop (g := fun k i => impl_FitsFormat.l0 k l m l (l.length : Int) (i : Int)) (n := l.length) (B := 0) (ok := fitAt l m) (fin := true) (fun k => by
          simp only [impl_FitsFormat.l0]; rw [if_neg (by omega)])
        (fun k i hi _ => by
          simp only [impl_FitsFormat.l0]
          rw [if_pos (by omega), if_pos (by omega), if_pos (by omega), impl_IsThere_eq hl hm, rd_Fd, rd_Va, if_pos (show (i : Int) < (m.length : Int) by omega), impl_FitsField_eq, wrap_up (n := l.length) hi (by omega)]
          simp only [Option.bind_some]
          unfold fitAt
          by_cases q : isThere l m i = true
          · simp only [q, if_true]
          · simp only [q, Bool.false_eq_true, if_false]
            rw [if_pos (show (i : Int) < (m.length : Int) by omega)]
            by_cases n0 : (nt zVa m i).f0 = 0
            · rw [if_pos n0, decide_eq_true n0]
              by_cases n1 : (nt zVa m i).f1.length = 0
              · rw [if_neg (by omega), decide_eq_true n1]; rfl
              · rw [if_pos (by omega), decide_eq_false n1]; rfl
            · rw [if_neg n0, decide_eq_false n0]; rfl) l.length k 0 (by omega) (by omega)
      simpa using h
    · have e' : ((l.length : Int) != (m.length : Int)) = true := by rw [bne_iff_ne]; omega
      rw [e', hj, decide_eq_false e]; rfl

/-! ### impl_EncodeMessage -/
theorem impl_EncodeMessage_l0 {l : List Fd} {m : List Va} (hl : l.length ≤ 1000) (hm : l.length = m.length) (hv : ∀ i, (nt zVa m i).f1.length ≤ 1000) : ∀ (d k i : Nat) (acc : List Int), i + d = l.length → acc.length ≤ 1001 * i → d < k → impl_EncodeMessage.l0 k l m acc l (l.length : Int) (i : Int) = some (acc ++ encFrom l m d i, true) := by
  intro d
  induction d with
  | zero =>
    intro k i acc h ha hk
    obtain ⟨k, rfl⟩ := succ_of hk
    simp only [impl_EncodeMessage.l0]
    rw [if_neg (by omega)]; simp [encFrom]
  | succ d ih =>
    intro k i acc h ha hk
    obtain ⟨k, rfl⟩ := succ_of hk
    have hvi := hv i
    simp only [impl_EncodeMessage.l0, encFrom, encAt]
    rw [if_pos (by omega), if_pos (by omega), if_pos (by omega), impl_IsThere_eq (by omega) (by omega), Option.bind_some, rd_Fd, rd_Va, wrap_up (n := l.length) (by omega) (by omega)]
    by_cases q : isThere l m i = true
    · rw [if_pos q, if_pos q]
      by_cases q1 : (nt zFd l i).f0 = 1
      · rw [if_pos q1, if_pos q1, if_pos (by omega), if_pos (by omega), ih k (i + 1) _ (by omega) (by rw [List.length_append, List.length_singleton]; omega) (by omega), List.append_assoc]
      · rw [if_neg q1, if_neg q1, if_pos (by omega), if_pos (by omega), Option.bind_some, if_pos (by rw [List.length_append, List.length_singleton]; omega), ih k (i + 1) _ (by omega) (by rw [List.length_append, List.length_append, List.length_singleton]; omega) (by omega)]
        simp
    · rw [if_neg q, if_neg q, ih k (i + 1) _ (by omega) (by omega) (by omega)]; simp
theorem impl_EncodeMessage_eq {l : List Fd} {m : List Va} {k : Nat} (hl : l.length ≤ 1048576) (hm : m.length ≤ 1048576) (hv : ∀ i, (nt zVa m i).f1.length ≤ 1000) (hk : l.length + 6 < k) : impl_EncodeMessage.f k l m = some (encodeMsg l m) := by
  unfold impl_EncodeMessage.f encodeMsg
  rw [impl_FitsFormat_eq hl hm hk, Option.bind_some]
  by_cases q : fitsFormat l m = true
  · obtain ⟨h1, h2, _⟩ := fits_items q
    have := (format_at h1).1
    rw [if_pos q, if_pos q]
    have h := impl_EncodeMessage_l0 (l := l) (m := m) (by omega) h2 hv l.length k 0 [] (by omega) (by simp) (by omega)
    simpa using h
  · rw [if_neg q, if_neg q]

/-! ### impl_MakeBytes -/
theorem impl_MakeBytes_eq {l : List Fd} {s : Int} {k : Nat} (hl : l.length ≤ 1048576) (hk : l.length + 1000 < k) : impl_MakeBytes.f k l s = some (makeBytes l s) := by
  unfold impl_MakeBytes.f makeBytes
  have := makeMsg_small l s
  rw [impl_MakeMessage_eq hl hk, Option.bind_some, impl_EncodeMessage_eq hl (by omega) (fun i => by have := makeMsg_items l s i; omega) (by omega), Option.bind_some]

/-! ### impl_readField -/
theorem fits_most {x : Fd} {v : Va} (h : fitsField x v = true) (h1 : x.f0 ≠ 1) : (v.f1.length : Int) ≤ x.f1 := by
  unfold fitsField at h
  rw [if_neg h1] at h
  split at h
  · simp only [Bool.and_eq_true, decide_eq_true_eq] at h; exact h.2.1
  · split at h
    · simp only [Bool.and_eq_true, decide_eq_true_eq] at h; exact h.2.1
    · simp at h
theorem impl_readField_eq {b : List Int} (x : Fd) (hb : b.length ≤ 1048576) : ∃ r, impl_readField.f x.f0 x.f1 x.f2 x.f3 b = some r ∧ (match readVal x b with | none => r.2.2.2 = false | some (v, n) => r = (v.f0, v.f1, (n : Int), true)) := by
  unfold impl_readField.f readVal
  by_cases h0 : b.length = 0
  · rw [if_pos (by omega), if_pos h0]; exact ⟨_, rfl, rfl⟩
  · rw [if_neg (by omega), if_neg h0]
    have hr : rd b 0 = nt 0 b 0 := rd_cast b 0
    rw [hr]
    obtain ⟨h, hh⟩ : ∃ h, h = nt 0 b 0 := ⟨_, rfl⟩
    rw [← hh]
    by_cases h1 : x.f0 = 1
    · rw [if_pos h1, if_pos h1, if_pos (by omega), impl_FitsField_eq x ⟨h, []⟩, Option.bind_some]
      by_cases q : fitsField x ⟨h, []⟩ = true
      · rw [if_pos q, q]; exact ⟨_, rfl, rfl⟩
      · rw [if_neg q]; exact ⟨_, rfl, by simpa using q⟩
    · rw [if_neg h1, if_neg h1, if_pos (by omega), impl_InRange_eq, Option.bind_some, wrap_id (x := (b.length : Int) - 1) (by omega) (by omega)]
      have hmn : mn x.f1 ((b.length : Int) - 1) ≤ (b.length : Int) - 1 ∧ (mn x.f1 ((b.length : Int) - 1) = x.f1 ∨ mn x.f1 ((b.length : Int) - 1) = (b.length : Int) - 1) := by
        unfold mn; split <;> omega
      by_cases q : 0 ≤ h ∧ h ≤ mn x.f1 ((b.length : Int) - 1)
      · have hl2 : ((b.drop 1).take h.toNat).length = h.toNat := by rw [List.length_take, List.length_drop]; omega
        have ht : (b.take ((1 + h : Int)).toNat).drop 1 = (b.drop 1).take h.toNat := by
          rw [List.drop_take, show (1 + h : Int).toNat - 1 = h.toNat by omega]
        rw [if_pos (by simpa using q), wrap_id (x := 1 + h) (by omega) (by omega), if_pos (by omega), if_pos (by omega), ht]
        unfold slices_Clone_int_int.f
        rw [if_pos (by rw [hl2]; omega), Option.bind_some, impl_FitsField_eq x ⟨0, (b.drop 1).take h.toNat⟩, Option.bind_some, if_pos (by omega)]
        by_cases f : fitsField x ⟨0, (b.drop 1).take h.toNat⟩ = true
        · rw [if_pos f, f]; exact ⟨_, rfl, by show ((0 : Int), (b.drop 1).take h.toNat, 1 + h, true) = (0, (b.drop 1).take h.toNat, ((1 + h.toNat : Nat) : Int), true); rw [show ((1 + h.toNat : Nat) : Int) = 1 + h by omega]⟩
        · rw [if_neg f]; exact ⟨_, rfl, by simpa using f⟩
      · rw [if_neg (by simpa using q)]
        refine ⟨_, rfl, ?_⟩
        by_cases q2 : 0 ≤ h ∧ h ≤ (b.length : Int) - 1
        · have hl2 : ((b.drop 1).take h.toNat).length = h.toNat := by rw [List.length_take, List.length_drop]; omega
          rw [if_pos q2, if_neg (fun f => by
            have := fits_most f h1
            have h3 : (((b.drop 1).take h.toNat).length : Int) ≤ x.f1 := this
            rw [hl2] at h3; omega)]
        · rw [if_neg q2]

/-! ### impl_ReadPrefix -/
theorem impl_ReadPrefix_l0 {l : List Fd} {b : List Int} (hl : l.length ≤ 1000) (hb : b.length ≤ 1048576) : ∀ (d k i a : Nat) (acc : List Va), i + d = l.length → acc.length = i → a ≤ b.length → d < k → impl_ReadPrefix.l0 k l b acc (a : Int) l (l.length : Int) (i : Int) = some (match rdFrom l b d acc a i with | none => ([], -1) | some (m, a) => (m, (a : Int))) := by
  intro d
  induction d with
  | zero =>
    intro k i a acc h ha hab hk
    obtain ⟨k, rfl⟩ := succ_of hk
    simp only [impl_ReadPrefix.l0, rdFrom]
    rw [if_neg (by omega)]
  | succ d ih =>
    intro k i a acc h ha hab hk
    obtain ⟨k, rfl⟩ := succ_of hk
    simp only [impl_ReadPrefix.l0, rdFrom]
    rw [if_pos (by omega), if_pos (by omega), if_pos (by omega), impl_IsThere_eq (by omega) (by omega), Option.bind_some, rd_Fd, wrap_up (n := l.length) (by omega) (by omega), toNat_cast]
    by_cases q : isThere l acc i = true
    · obtain ⟨r, e, hr⟩ := impl_readField_eq (b := b.drop a) (nt zFd l i) (by rw [List.length_drop]; omega)
      rw [if_pos q, if_pos q, if_pos (by omega), if_pos (by omega), e, Option.bind_some]
      cases hv : readVal (nt zFd l i) (b.drop a) with
      | none =>
        rw [hv] at hr
        have hr' : r.2.2.2 = false := hr
        rw [if_neg (by simp [hr'])]
      | some p =>
        obtain ⟨v, n⟩ := p
        rw [hv] at hr
        have hr' : r = (v.f0, v.f1, (n : Int), true) := hr
        have hn := readVal_len hv
        rw [List.length_drop] at hn
        subst hr'
        dsimp only
        rw [if_pos rfl, if_pos (by omega), wrap_id (x := (a : Int) + n) (by omega) (by omega), show (a : Int) + (n : Int) = ((a + n : Nat) : Int) by omega]
        exact ih k (i + 1) (a + n) _ (by omega) (by rw [List.length_append, List.length_singleton]; omega) (by omega) (by omega)
    · rw [if_neg q, if_neg q, if_pos (by omega)]
      exact ih k (i + 1) a _ (by omega) (by rw [List.length_append, List.length_singleton]; omega) hab (by omega)
theorem impl_ReadPrefix_eq {l : List Fd} {b : List Int} {k : Nat} (hl : l.length ≤ 1048576) (hb : b.length ≤ 1048576) (hk : l.length + 4 < k) : impl_ReadPrefix.f k l b = some (readPrefix l b) := by
  unfold impl_ReadPrefix.f readPrefix
  rw [impl_IsFormat_eq hl hk, Option.bind_some]
  by_cases q : isFormat l = true
  · have h6 := (format_at q).1
    rw [if_pos q, if_pos q]
    exact impl_ReadPrefix_l0 (by omega) hb l.length k 0 0 [] (by omega) rfl (by omega) (by omega)
  · rw [if_neg q, if_neg q]

/-! ### impl_DecodeMessage -/
theorem impl_DecodeMessage_eq {l : List Fd} {b : List Int} {k : Nat} (hl : l.length ≤ 1048576) (hb : b.length ≤ 1048576) (hk : l.length + 4 < k) : impl_DecodeMessage.f k l b = some (decodeMsg l b) := by
  unfold impl_DecodeMessage.f decodeMsg
  rw [impl_ReadPrefix_eq hl hb hk, Option.bind_some]
  split <;> rfl

/-! ### impl_LostBy -/
theorem impl_LostBy_l0 {l m : List Fd} {n : Nat} (hl : l.length ≤ 1048576) (hm : m.length ≤ 1048576) (hn : n ≤ 50) : ∀ (d k s : Nat) (c : Int), s + d = n → 0 ≤ c → c ≤ s → l.length + m.length + 1000 + d < k → impl_LostBy.l0 k l m c (n : Int) (s : Int) = some (c + lostFrom l m d s) := by
  intro d
  induction d with
  | zero =>
    intro k s c h h0 h1 hk
    obtain ⟨k, rfl⟩ := succ_of hk
    simp only [impl_LostBy.l0, lostFrom]
    rw [if_neg (by omega)]; simp
  | succ d ih =>
    intro k s c h h0 h1 hk
    obtain ⟨k, rfl⟩ := succ_of hk
    have hb := makeBytes_length l (s : Int)
    simp only [impl_LostBy.l0, lostFrom]
    rw [if_pos (by omega), impl_MakeBytes_eq hl (by omega), Option.bind_some, impl_DecodeMessage_eq hm (by omega) (by omega), Option.bind_some, wrap_up (n := n) (by omega) (by omega), wrap_id (x := c + 1) (by omega) (by omega)]
    by_cases q : (decodeMsg m (makeBytes l (s : Int))).2 = true
    · rw [if_pos q, if_pos q, ih k (s + 1) c (by omega) h0 (by omega) (by omega)]; congr 1; omega
    · rw [if_neg q, if_neg q, ih k (s + 1) (c + 1) (by omega) (by omega) (by omega) (by omega)]; congr 1; omega
theorem impl_LostBy_eq {l m : List Fd} {n : Int} {k : Nat} (hl : l.length ≤ 1048576) (hm : m.length ≤ 1048576) (hk : l.length + m.length + 2000 < k) : impl_LostBy.f k l m n = some (lostBy l m n) := by
  obtain ⟨k, rfl⟩ := succ_of hk
  have hj : impl_LostBy.j0 (k + 1) l m n true = some 0 := by simp only [impl_LostBy.j0, if_true]
  unfold impl_LostBy.f lostBy
  rw [impl_InRange_eq, Option.bind_some, impl_IsFormat_eq hl (by omega), Option.bind_some]
  by_cases q : 0 ≤ n ∧ n ≤ 50
  · rw [if_pos (by simpa using q)]
    by_cases f : isFormat l = true
    · obtain ⟨N, rfl⟩ : ∃ N : Nat, n = N := ⟨n.toNat, by omega⟩
      rw [if_pos ⟨q.1, q.2, f⟩, f]
      simp only [impl_LostBy.j0, Bool.not_true, Bool.false_eq_true, if_false]
      rw [toNat_cast]
      have h := impl_LostBy_l0 (l := l) (m := m) (n := N) hl hm (by omega) N k 0 0 (by omega) (by omega) (by omega) (by omega)
      simpa using h
    · rw [if_neg (fun h => f h.2.2), show isFormat l = false by simpa using f]; exact hj
  · rw [if_neg (by simpa using q), if_neg (fun h => q ⟨h.1, h.2.1⟩), hj]

/-! ### slices_Equal_int_int -/
theorem slices_Equal_int_int_l0 (a b : List Int) (hl : a.length ≤ 9223372036854775807) (he : b.length = a.length) : ∀ (d k i : Nat), i + d = a.length → d < k → slices_Equal_int_int.l0 k a b (a.length : Int) (i : Int) = some (decide (a.drop i = b.drop i)) := by
  intro d
  induction d with
  | zero =>
    intro k i h hk
    obtain ⟨k, rfl⟩ := succ_of hk
    obtain rfl : i = a.length := by omega
    simp only [slices_Equal_int_int.l0]; rw [if_neg (by omega), drop_end, ← he, drop_end]; rfl
  | succ d ih =>
    intro k i h hk
    obtain ⟨k, rfl⟩ := succ_of hk
    simp only [slices_Equal_int_int.l0]
    rw [if_pos (by omega), if_pos (by omega), if_pos (by omega), if_pos (by omega), rd_cast, rd_cast, drop_step a 0 i (by omega), drop_step b 0 i (by omega), wrap_up (n := a.length) (by omega) hl, ih k (i + 1) (by omega) (by omega)]
    by_cases e : nt 0 a i = nt 0 b i
    · rw [if_pos e]; simp [e]
    · rw [if_neg e]; simp [e]
theorem slices_Equal_int_int_eq {a b : List Int} {k : Nat} (hl : a.length ≤ 9223372036854775807) (hk : a.length < k) : slices_Equal_int_int.f k a b = some (decide (a = b)) := by
  unfold slices_Equal_int_int.f
  by_cases e : a.length = b.length
  · rw [if_pos (by omega)]
    exact slices_Equal_int_int_l0 a b hl e.symm a.length k 0 (by omega) hk
  · rw [if_neg (by omega), decide_eq_false (fun h => e (by rw [h]))]

/-! ### impl_EqualMessages -/
theorem impl_EqualMessages_lit_eq {x y : Va} {k : Nat} (hl : x.f1.length ≤ 9223372036854775807) (hk : x.f1.length < k) : impl_EqualMessages_lit.f k x.f0 x.f1 y.f0 y.f1 = some (sameVa x y) := by
  unfold impl_EqualMessages_lit.f sameVa
  rw [slices_Equal_int_int_eq hl hk]
  by_cases h : x.f0 = y.f0
  · rw [if_pos h]; simp [h]
  · rw [if_neg h]; simp [h]
theorem impl_EqualMessages_eq {a b : List Va} {k : Nat} (hl : a.length ≤ 1048576) (hm : ∀ v ∈ a, v.f1.length ≤ 1048576) (hk : 2100000 < k) : impl_EqualMessages.f k a b = some (eqMsgs a b) := by
  unfold impl_EqualMessages.f impl_EqualMessages_all.f impl_Value.f eqMsgs
  by_cases e : a.length = b.length
  · rw [if_pos (by omega), decide_eq_true e]
    have h := all_loop (g := fun k i => impl_Value.l0 (inst_ := ⟨fun k_ x0 x1 x2 x3 => impl_EqualMessages_lit.f k_ x0 x1 x2 x3, fun x0 x1 x2 x3 k_ => impl_EqualMessages_lit.mono x0 x1 x2 x3 k_⟩) k b a (a.length : Int) (i : Int)) (n := a.length) (B := 1048577) (ok := fun i => sameVa (nt zVa a i) (nt zVa b i)) (fin := true) (fun k => by
        simp only [impl_Value.l0]; rw [if_neg (by omega)])
      (fun k i hi hk => by
        have hx := hm _ (nt_mem zVa a i hi)
        simp only [impl_Value.l0, KEEP_impl_Value.f]
        rw [if_pos (by omega), if_pos (by omega), if_pos (by omega), if_pos (by omega), rd_Va, rd_Va, wrap_up (n := a.length) hi (by omega), impl_EqualMessages_lit_eq (by omega) (by omega), Option.bind_some]) a.length k 0 (by omega) (by omega)
    rw [show impl_Value.l0 (inst_ := _) k b a (a.length : Int) 0 = _ from h]; simp
  · rw [if_neg (by omega), decide_eq_false e]; rfl

/-! ### impl_SkipsTail -/
theorem impl_SkipsTail_eq {l m : List Fd} {s : Int} {k : Nat} (hl : l.length ≤ 1048576) (hm : m.length ≤ 1048576) (hk : 2200000 < k) : impl_SkipsTail.f k l m s = some (skipsTail l m s) := by
  have hb := makeBytes_length m s
  have hi := readPrefix_items l (makeBytes m s)
  have hs := makeMsg_small m s
  have hr := readPrefix_most l (makeBytes m s)
  unfold impl_SkipsTail.f skipsTail
  rw [impl_MakeBytes_eq hm (by omega), Option.bind_some, impl_ReadPrefix_eq hl (by omega) (by omega), Option.bind_some, impl_MakeMessage_eq hm (by omega), Option.bind_some]
  by_cases q : (readPrefix l (makeBytes m s)).2 ≥ 0
  · have hx := readPrefix_length q
    rw [if_pos q]
    by_cases q2 : (makeMsg m s).length ≥ (readPrefix l (makeBytes m s)).1.length
    · rw [if_pos (by omega), if_pos (by omega), if_pos (by omega), if_pos ⟨q, q2⟩, toNat_cast, ← hx, impl_EqualMessages_eq (by omega) (fun v hv => by have := hi v hv; omega) (by omega), Option.bind_some]
    · rw [if_neg (by omega), if_neg (fun h => q2 h.2)]
  · rw [if_neg q, if_neg (fun h => q h.1)]

end FnDiffersAid
open FnDiffersAid

theorem bytes_loop {s : ByteArray} : ∀ (n i : Nat) (r : List UInt8), s.size - i = n → r ≠ [] → ByteArray.toList.loop s i r ≠ [] := by
  intro n
  induction n with
  | zero =>
    intro i r h hr
    rw [ByteArray.toList.loop, if_neg (by omega)]
    simpa using hr
  | succ n ih =>
    intro i r h hr
    rw [ByteArray.toList.loop, if_pos (by omega)]
    exact ih (i + 1) _ (by omega) (by simp)
theorem bytes_some {s : ByteArray} (h : 0 < s.size) : s.toList ≠ ([] : List UInt8) := by
  rw [ByteArray.toList, ByteArray.toList.loop, if_pos h]
  exact bytes_loop _ 1 _ rfl (by simp)
theorem break_name {k : Int} (h0 : 0 ≤ k) (h1 : k ≤ 4) : ∃ s, impl_BreakName.f k = some s ∧ s.toList ≠ ([] : List UInt8) := by
  have h : k = 0 ∨ k = 1 ∨ k = 2 ∨ k = 3 ∨ k = 4 := by omega
  rcases h with rfl | rfl | rfl | rfl | rfl <;> exact ⟨_, rfl, bytes_some (by decide)⟩
theorem FnDiffers_l0 {a b : List S47} (ha : a.length ≤ 7) (hb : b.length ≤ 7) : ∀ (d k i : Nat), i + d = 5 → 5000000 + 3 * d < k → laws_FnDiffers.l0 k a b (breakOf a b) (i : Int) = some true := by
  intro d
  induction d with
  | zero =>
    intro k i hi hk
    obtain ⟨k, rfl⟩ := succ_of hk
    simp only [laws_FnDiffers.l0]
    rw [if_neg (by omega)]
  | succ d ih =>
    intro k i hi hk
    obtain ⟨k, rfl⟩ : ∃ m, k = m + 1 + 1 := ⟨k - 2, by omega⟩
    have hn := ih k (i + 1) (by omega) (by omega)
    have hmb := makeBytes_length a (i : Int)
    have hmm := makeMsg_small a (i : Int)
    have hj : laws_FnDiffers.j4 (k + 1) a b (breakOf a b) (i : Int) = some true := by
      simp only [laws_FnDiffers.j4]
      rw [wrap_id (x := (i : Int) + 1) (by omega) (by omega), show (i : Int) + 1 = ((i + 1 : Nat) : Int) by omega]
      by_cases q : breakOf a b = 2
      · obtain ⟨f1, f2, h12⟩ := break_tail q
        rw [q] at hn
        rw [if_pos q, if_pos (by omega), if_pos (by omega), toNat_cast, impl_EqualFormats_eq (by omega) (by omega), Option.bind_some, q, hn]
        by_cases e : eqFds a (b.take a.length) = true
        · rw [if_pos e, impl_SkipsTail_eq (by omega) (by omega) (by omega), Option.bind_some, if_pos (skips_tail f2 f1 (tail_alike h12 e))]
        · rw [if_neg e]
      · rw [if_neg q]; exact hn
    simp only [laws_FnDiffers.l0]
    rw [if_pos (by omega), impl_MakeBytes_eq (by omega) (by omega), Option.bind_some, impl_IsWithin_eq (by omega) (by omega) (by omega), Option.bind_some, hj]
    by_cases w : isWithin a b = true
    · obtain ⟨f1, f2, hl, al⟩ := within_facts w
      rw [if_pos w, impl_DecodeMessage_eq (by omega) (by omega) (by omega), Option.bind_some, decode_wider f1 f2 al hl]
      dsimp only
      rw [if_pos rfl, impl_MakeMessage_eq (by omega) (by omega), Option.bind_some, impl_EqualMessages_eq (by omega) (fun v hv => by
        obtain ⟨j, hj, e⟩ := List.getElem_of_mem hv
        have := makeMsg_items a (i : Int) j
        rw [nt_lt _ _ _ hj, e] at this; omega) (by omega), Option.bind_some, if_pos (eqMsgs_self _)]
    · rw [if_neg w]
theorem FnDiffers : laws_FnDiffers.Pure := by
  intro st _ _ _
  by_cases hs : (st.length : Int) > 1048576
  · refine ⟨0, ?_⟩
    unfold laws_FnDiffers.f laws_big.f
    rw [Option.bind_some, if_pos (by simpa using hs)]
  · obtain ⟨k, hk⟩ : ∃ k, k = 6000000 := ⟨_, rfl⟩
    refine ⟨k + 3, ?_⟩
    unfold laws_FnDiffers.f laws_big.f
    rw [Option.bind_some, if_neg (by simpa using hs)]
    obtain ⟨a, b, e, ha, hb⟩ := draw_break (st := st) (k := k + 3) (by omega) (by omega)
    rw [e, Option.bind_some]
    dsimp only
    have hr := break_range a b
    obtain ⟨nm, hnm, hne⟩ := break_name hr.1 hr.2
    have h2 : laws_FnDiffers.j2 (k + 1) a b (breakOf a b) false = some true := by
      simp only [laws_FnDiffers.j2]
      rw [if_neg (by simp)]
      exact FnDiffers_l0 ha hb 5 k 0 (by omega) (by omega)
    have h1 : laws_FnDiffers.j1 (k + 2) a b (breakOf a b) false = some true := by
      simp only [laws_FnDiffers.j1]
      rw [if_neg (by simp), impl_IsWithin_eq (by omega) (by omega) (by omega), Option.bind_some]
      by_cases w : isWithin a b = true
      · obtain ⟨f1, f2, hl, al⟩ := within_facts w
        rw [if_pos w, impl_LostBy_eq (by omega) (by omega) (by omega), Option.bind_some, lost_none f1 f2 al hl]
        exact h2
      · rw [if_neg w]; exact h2
    have h0 : laws_FnDiffers.j0 (k + 3) a b (breakOf a b) false = some true := by
      simp only [laws_FnDiffers.j0]
      rw [if_neg (by simp), impl_BreakOf_eq (by omega) (by omega) (by omega), Option.bind_some]
      by_cases q1 : breakOf a b = 1
      · rw [if_pos q1, if_pos (break_wider q1), if_neg (by omega)]; exact h1
      · rw [if_neg q1]
        by_cases q3 : breakOf a b = 3
        · rw [if_pos q3, break_narrower q3]; exact h1
        · rw [if_neg q3]; exact h1
    have hw := break_zero a b
    rw [impl_BreakOf_eq (by omega) (by omega) (by omega), Option.bind_some, hnm, Option.bind_some, if_neg hne, impl_IsFormat_eq (by omega) (by omega), Option.bind_some, impl_EqualFormats_eq (by omega) (by omega), Option.bind_some, hw]
    cases isFormat a with
    | true => rw [if_pos rfl, Bool.true_and, bne_self_eq_false]; exact h0
    | false => rw [if_neg (by simp), Bool.false_and, bne_self_eq_false]; exact h0

end Go.Proofs.Yticpmgofegaaeaa.Pure
