/- BreakOf of the program and of the reference agree on every two lists of fields, as a statement over lists alone; the bounds are those of memory. -/
import Derived.Test.YtjinokcepdgknaaPFnExactBreakOfx7
import Derived.Test.YtjinokcepdgknaaGb
import Derived.Test.YtjinokcepdgknaaGr
namespace Go.Proofs.Ytjinokcepdgknaa.Pure
open Go.RowKit Go.Proofs.Ytjinokcepdgknaa.PFnExactBreakOf Go.Proofs.YtjinokcepdgknaaW.PrintWords Go.Proofs.YtjinokcepdgknaaW.PrintLast Go.Proofs.Ytjinokcepdgknaa.Gb Go.Proofs.Ytjinokcepdgknaa.Gr Go.Proofs.Ytjinokcepdgknaa
set_option linter.unusedSimpArgs false
set_option linter.unusedVariables false
namespace FnExactBreakOfAid

/-! ### T_inB -/
def inB (x a b : Int) : Bool := decide (a ≤ x) && decide (x ≤ b)
theorem inB_dec (x a b : Int) : decide (a ≤ x ∧ x ≤ b) = inB x a b := by simp [inB]

/-! ### T_Field -/
abbrev Fd := S50
abbrev LFd := S52
abbrev zFd : Fd := z50
abbrev zLFd : LFd := z52
theorem rd_Fd (l : List Fd) (i : Nat) : rd_T50 l (i : Int) = nt zFd l i := by simp [rd_T50, nt]
theorem rd_FdI (l : List Fd) (i : Int) : rd_T50 l i = nt zFd l i.toNat := by simp [rd_T50, nt]
theorem rd_LFd (l : List LFd) (i : Nat) : rd_T52 l (i : Int) = nt zLFd l i := by simp [rd_T52, nt]
def convFd (x : LFd) : Fd := ⟨x.f0, x.f1, x.f2, x.f3⟩
/-- A field that may stand at place i. -/
def okFd (l : List Fd) (i : Nat) : Bool := inB (nt zFd l i).f0 1 3 && (inB (nt zFd l i).f1 1 (if (nt zFd l i).f0 = 1 then 99 else 5) && (if (nt zFd l i).f2 = -1 then (nt zFd l i).f3 == 0 else
  inB (nt zFd l i).f2 0 ((i : Int) - 1) && (decide ((nt zFd l (nt zFd l i).f2.toNat).f0 = 1) && (decide ((nt zFd l (nt zFd l i).f2.toNat).f2 = -1) && inB (nt zFd l i).f3 0 (nt zFd l (nt zFd l i).f2.toNat).f1))))
def isFormat (l : List Fd) : Bool := allFrom (okFd l) 0 l.length && inB l.length 1 6

/-! ### laws_szFieldS -/
theorem laws_szFieldS_eq {l : List LFd} {a : Int} (h0 : 0 ≤ a) (h1 : a ≤ 1048576) (hl : l.length ≤ 9223372036854775807) : laws_szFieldS.f l a = some (if a < l.length then -1 else a - l.length) := by
  unfold laws_szFieldS.f
  rw [wrap_id (by omega) (by omega)]
  by_cases h : a < (l.length : Int)
  · rw [if_pos (by omega), if_pos h]
  · rw [if_neg (by omega), if_neg h]

/-! ### laws_toFieldS -/
theorem laws_toFieldS_eq {l : List LFd} {k : Nat} (hl : l.length ≤ 1048576) (hk : l.length < k) : laws_toFieldS.f k l = some (l.map convFd) := by
  unfold laws_toFieldS.f
  rw [if_pos (by omega), toNat_cast, if_pos (by omega)]
  have h := map_loop (g := fun k acc i => laws_toFieldS.l0 k l acc (i : Int)) (l := l) (z := zLFd) (zb := zFd) (f := convFd) (B := 0) (fun k acc ha => by
      simp only [laws_toFieldS.l0]; rw [if_neg (by omega)])
    (fun k i acc hi _ ha => by
      simp only [laws_toFieldS.l0]
      rw [if_pos (by omega), if_pos (by omega), rd_LFd]
      simp only [laws_toField.f, Option.bind_some]
      rw [if_pos (by omega), wrap_up (n := l.length) hi (by omega), toNat_cast]; rfl) l.length k 0 (by omega) (by omega)
  simpa using h

/-! ### laws_eqFieldS -/
theorem laws_eqFieldS_self {l : List Fd} {k : Nat} (hl : l.length ≤ 9223372036854775807) (hk : l.length < k) : laws_eqFieldS.f k l l = some true := by
  unfold laws_eqFieldS.f
  rw [if_pos rfl]
  exact pass_loop (g := fun k i => laws_eqFieldS.l0 k l l (i : Int)) (n := l.length) (B := 0) (fun k => by
      simp only [laws_eqFieldS.l0]; rw [if_neg (by omega)])
    (fun k i hi _ => by
      simp only [laws_eqFieldS.l0]
      rw [if_pos (by omega), if_pos (by omega), if_pos (by omega), wrap_up (n := l.length) hi hl]
      simp only [laws_eqField.f, if_true, bne_self_eq_false, Bool.false_eq_true, if_false, Option.bind_some]) l.length k 0 (by omega) (by omega)

/-! ### spec_EqualFormats -/
def sameFd (x y : Fd) : Bool := (x.f0 == y.f0) && ((x.f1 == y.f1) && ((x.f2 == y.f2) && (x.f3 == y.f3)))
def eqFds (a b : List Fd) : Bool := decide (a.length = b.length) && allFrom (fun i => sameFd (nt zFd a i) (nt zFd b i)) 0 a.length
theorem sameFd_not (x y : Fd) : (!(x.f0 == y.f0) || (!(x.f1 == y.f1) || (!(x.f2 == y.f2) || !(x.f3 == y.f3)))) = !sameFd x y := by
  unfold sameFd
  cases (x.f0 == y.f0) <;> cases (x.f1 == y.f1) <;> cases (x.f2 == y.f2) <;> cases (x.f3 == y.f3) <;> rfl
theorem spec_EqualFormats_eq {a b : List Fd} {k : Nat} (hl : a.length ≤ 1048576) (hk : a.length < k) : spec_EqualFormats.f k a b = some (eqFds a b) := by
  unfold spec_EqualFormats.f eqFds
  by_cases e : a.length = b.length
  · rw [if_pos (by omega), decide_eq_true e]
    have h := all_loop (g := fun k i => spec_EqualFormats.l0 k a b (i : Int)) (n := a.length) (B := 0) (ok := fun i => sameFd (nt zFd a i) (nt zFd b i)) (fin := true) (fun k => by
        simp only [spec_EqualFormats.l0]; rw [if_neg (by omega)])
      (fun k i hi _ => by
        simp only [spec_EqualFormats.l0]
        rw [if_pos (by omega), if_pos (by omega), if_pos (by omega), rd_Fd, rd_Fd, wrap_up (n := a.length) hi (by omega), sameFd_not]
        cases sameFd (nt zFd a i) (nt zFd b i) <;> simp) a.length k 0 (by omega) (by omega)
    simpa using h
  · rw [if_neg (by omega), decide_eq_false e]; rfl

/-! ### T_IsWithin -/
def withinFd (x y : Fd) : Bool := (x.f0 == y.f0) && ((x.f2 == y.f2) && ((x.f3 == y.f3) && decide (x.f1 ≤ y.f1)))
def isWithin (l m : List Fd) : Bool := isFormat l && (isFormat m && (decide (l.length = m.length) && allFrom (fun i => withinFd (nt zFd l i) (nt zFd m i)) 0 l.length))

/-! ### spec_l1In -/
theorem spec_l1In_eq (a b c : Int) : spec_l1In.f a b c = some (decide (b ≤ a ∧ a ≤ c)) := by
  unfold spec_l1In.f
  by_cases h : a ≥ b
  · rw [if_pos h]; simp [show b ≤ a from h]
  · rw [if_neg h, decide_eq_false (by omega)]

/-! ### spec_IsFormat -/
theorem spec_IsFormat_eq {l : List Fd} {k : Nat} (hl : l.length ≤ 1048576) (hk : 3 * l.length < k) : spec_IsFormat.f k l = some (isFormat l) := by
  unfold spec_IsFormat.f isFormat
  exact all_loopC (g := fun k i => spec_IsFormat.l0 k l (i : Int)) (n := l.length) 3 (fun k => by
      simp only [spec_IsFormat.l0]; rw [if_neg (by omega), spec_l1In_eq, inB_dec]; rfl)
    (fun k i hi => by
      have hj1 : ∀ m, spec_IsFormat.j1 (k + 2) l (i : Int) m (nt zFd l i).f0 (nt zFd l i).f1 (nt zFd l i).f2 (nt zFd l i).f3 = if (inB (nt zFd l i).f0 1 3 && (inB (nt zFd l i).f1 1 m && (if (nt zFd l i).f2 = -1 then (nt zFd l i).f3 == 0 else
          inB (nt zFd l i).f2 0 ((i : Int) - 1) && (decide ((nt zFd l (nt zFd l i).f2.toNat).f0 = 1) && (decide ((nt zFd l (nt zFd l i).f2.toNat).f2 = -1) && inB (nt zFd l i).f3 0 (nt zFd l (nt zFd l i).f2.toNat).f1))))) = true then spec_IsFormat.l0 k l ((i + 1 : Nat) : Int) else some false := by
        intro m
        simp only [spec_IsFormat.j1, spec_l1In_eq, inB_dec, Option.bind_some, spec_IsFormat.j2]
        by_cases b1 : inB (nt zFd l i).f0 1 3 = true
        · rw [if_pos b1, b1]
          by_cases b2 : inB (nt zFd l i).f1 1 m = true
          · rw [b2, if_neg (by simp)]
            by_cases b3 : (nt zFd l i).f2 = -1
            · rw [if_pos b3, if_pos b3, wrap_up (n := l.length) hi (by omega)]
              by_cases b4 : (nt zFd l i).f3 = 0
              · rw [if_pos b4, if_pos (by simp [b4])]
              · rw [if_neg b4, if_neg (by simp [b4])]
            · rw [if_neg b3, if_neg b3, wrap_id (x := (i : Int) - 1) (by omega) (by omega)]
              by_cases b4 : inB (nt zFd l i).f2 0 ((i : Int) - 1) = true
              · have hb : 0 ≤ (nt zFd l i).f2 ∧ (nt zFd l i).f2 ≤ (i : Int) - 1 := by simpa [inB] using b4
                rw [if_pos b4, if_pos hb.1, if_pos (by omega), rd_FdI, b4, wrap_up (n := l.length) hi (by omega)]
                by_cases b5 : (nt zFd l (nt zFd l i).f2.toNat).f0 = 1
                · rw [if_pos b5, decide_eq_true b5]
                  by_cases b6 : (nt zFd l (nt zFd l i).f2.toNat).f2 = -1
                  · rw [if_pos b6, decide_eq_true b6]; rfl
                  · rw [if_neg b6, decide_eq_false b6]; rfl
                · rw [if_neg b5, decide_eq_false b5]; rfl
              · rw [if_neg b4, if_neg (by simp [b4])]
          · rw [if_pos (by simp [b2]), if_neg (by simp [b2])]
        · rw [if_neg b1, if_pos trivial, if_neg (by simp [b1])]
      simp only [spec_IsFormat.l0]
      rw [if_pos (by omega), if_pos (by omega), rd_Fd, hj1, hj1]
      unfold okFd
      by_cases b0 : (nt zFd l i).f0 = 1
      · rw [if_pos b0, if_pos b0]
      · rw [if_neg b0, if_neg b0]) l.length k 0 (by omega) (by omega)

/-! ### spec_IsWithin -/
theorem spec_IsWithin_eq {l m : List Fd} {k : Nat} (hl : l.length ≤ 1048576) (hm : m.length ≤ 1048576) (hk : 4000000 < k) : spec_IsWithin.f k l m = some (isWithin l m) := by
  unfold spec_IsWithin.f isWithin
  rw [spec_IsFormat_eq hl (by omega), Option.bind_some, spec_IsFormat_eq hm (by omega), Option.bind_some]
  obtain ⟨k, rfl⟩ := succ_of hk
  simp only [spec_IsWithin.j0]
  cases isFormat l with
  | false => simp
  | true =>
    cases isFormat m with
    | false => simp
    | true =>
      rw [if_pos rfl, if_pos rfl]
      by_cases h : l.length = m.length
      · rw [if_neg (by simp [h])]
        have q := all_loop (g := fun k i => spec_IsWithin.l0 k l m (i : Int)) (n := l.length) (B := 0) (ok := fun i => withinFd (nt zFd l i) (nt zFd m i)) (fin := true) (fun k => by
            simp only [spec_IsWithin.l0]; rw [if_neg (by omega)])
          (fun k i hi _ => by
            simp only [spec_IsWithin.l0]
            rw [if_pos (by omega), if_pos (by omega), if_pos (by omega), rd_Fd, rd_Fd, wrap_up (n := l.length) hi (by omega)]
            by_cases b1 : (nt zFd l i).f0 = (nt zFd m i).f0
            · by_cases b2 : (nt zFd l i).f2 = (nt zFd m i).f2
              · by_cases b3 : (nt zFd l i).f3 = (nt zFd m i).f3
                · by_cases b4 : (nt zFd l i).f1 > (nt zFd m i).f1
                  · rw [if_pos b1, if_pos b2, if_pos b3, if_pos b4, if_neg (by simp [withinFd]; omega)]
                  · rw [if_pos b1, if_pos b2, if_pos b3, if_neg b4, if_pos (by simp [withinFd]; omega)]
                · rw [if_pos b1, if_pos b2, if_neg b3, if_neg (by simp [withinFd]; omega)]
              · rw [if_pos b1, if_neg b2, if_neg (by simp [withinFd]; omega)]
            · rw [if_neg b1, if_neg (by simp [withinFd]; omega)]) l.length k 0 (by omega) (by omega)
        simpa [h] using q
      · rw [if_pos (by simp; omega)]; simp [h]

/-! ### spec_BreakOf -/
def breakOf (l m : List Fd) : Int := if (isFormat l && isFormat m) = false then 4 else if eqFds l m = true then 0 else if isWithin l m = true then 1 else if isWithin m l = true then 3 else if l.length < m.length then (if isWithin l (m.take l.length) = true then 2 else 4) else 4
theorem spec_BreakOf_eq {l m : List Fd} {k : Nat} (hl : l.length ≤ 1048576) (hm : m.length ≤ 1048576) (hk : 4000001 < k) : spec_BreakOf.f k l m = some (breakOf l m) := by
  unfold spec_BreakOf.f
  rw [spec_IsFormat_eq hl (by omega), Option.bind_some, spec_IsFormat_eq hm (by omega), Option.bind_some]
  obtain ⟨k, rfl⟩ := succ_of hk
  have J : ∀ b, spec_BreakOf.j0 (k + 1) l m b = some (if b = true then 4 else if eqFds l m = true then 0 else if isWithin l m = true then 1 else if isWithin m l = true then 3 else if l.length < m.length then (if isWithin l (m.take l.length) = true then 2 else 4) else 4) := by
    intro b
    simp only [spec_BreakOf.j0]
    have ht : (m.take l.length).length ≤ 1048576 := by rw [List.length_take]; omega
    rw [spec_EqualFormats_eq hl (by omega), spec_IsWithin_eq hl hm (by omega), spec_IsWithin_eq hm hl (by omega), toNat_cast, spec_IsWithin_eq hl ht (by omega)]
    simp only [Option.bind_some]
    cases b with
    | true => rfl
    | false =>
      cases eqFds l m with
      | true => rfl
      | false =>
        cases isWithin l m with
        | true => rfl
        | false =>
          cases isWithin m l with
          | true => rfl
          | false =>
            simp only [Bool.false_eq_true, if_false]
            by_cases q : l.length < m.length
            · rw [if_pos (by omega), if_pos (by omega), if_pos (by omega), if_pos q]
              cases isWithin l (m.take l.length) <;> rfl
            · rw [if_neg (by omega), if_neg q]
  simp only [J]
  unfold breakOf
  cases isFormat l <;> cases isFormat m <;> rfl

/-! ### impl_EqualFormats -/
theorem impl_EqualFormats_eq {a b : List Fd} {k : Nat} (hl : a.length ≤ 1048576) (hk : a.length < k) : impl_EqualFormats.f k a b = some (eqFds a b) := by
  unfold impl_EqualFormats.f impl_Field.f eqFds
  by_cases e : a.length = b.length
  · rw [if_pos (by omega), decide_eq_true e]
    have h := all_loop (g := fun k i => impl_Field.l0 k a b (a.length : Int) (i : Int)) (n := a.length) (B := 0) (ok := fun i => sameFd (nt zFd a i) (nt zFd b i)) (fin := true) (fun k => by
        simp only [impl_Field.l0]; rw [if_neg (by omega)])
      (fun k i hi _ => by
        simp only [impl_Field.l0]
        rw [if_pos (by omega), if_pos (by omega), if_pos (by omega), if_pos (by omega), rd_Fd, rd_Fd, wrap_up (n := a.length) hi (by omega), sameFd_not]
        cases sameFd (nt zFd a i) (nt zFd b i) <;> simp) a.length k 0 (by omega) (by omega)
    rw [show impl_Field.l0 k a b (a.length : Int) 0 = _ from h]; simp
  · rw [if_neg (by omega), decide_eq_false e]; rfl

/-! ### impl_InRange -/
theorem impl_InRange_eq (a b c : Int) : impl_InRange.f a b c = some (decide (b ≤ a ∧ a ≤ c)) := by
  unfold impl_InRange.f
  by_cases h : b ≤ a
  · rw [if_pos h]; simp [h]
  · rw [if_neg h, decide_eq_false (by omega)]

/-! ### impl_IsFormat -/
theorem impl_isField_eq {l : List Fd} {i k : Nat} (hi : i < l.length) (hl : l.length ≤ 1048576) (hk : 3 < k) : impl_isField.f k (nt zFd l i).f0 (nt zFd l i).f1 (nt zFd l i).f2 (nt zFd l i).f3 (l.take i) = some (okFd l i) := by
  obtain ⟨k, rfl⟩ : ∃ m, k = m + 2 := ⟨k - 2, by omega⟩
  have ht : (l.take i).length = i := by rw [List.length_take]; omega
  have hj : ∀ m, impl_isField.j0 (k + 2) (l.take i) m (nt zFd l i).f0 (nt zFd l i).f1 (nt zFd l i).f2 (nt zFd l i).f3 = some (inB (nt zFd l i).f0 1 3 && (inB (nt zFd l i).f1 1 m && (if (nt zFd l i).f2 = -1 then (nt zFd l i).f3 == 0 else
      inB (nt zFd l i).f2 0 ((i : Int) - 1) && (decide ((nt zFd l (nt zFd l i).f2.toNat).f0 = 1) && (decide ((nt zFd l (nt zFd l i).f2.toNat).f2 = -1) && inB (nt zFd l i).f3 0 (nt zFd l (nt zFd l i).f2.toNat).f1))))) := by
    intro m
    simp only [impl_isField.j0, impl_InRange_eq, inB_dec, Option.bind_some, impl_isField.j1]
    by_cases b1 : inB (nt zFd l i).f0 1 3 = true
    · rw [if_pos b1, b1]
      by_cases b2 : inB (nt zFd l i).f1 1 m = true
      · rw [b2, if_neg (by simp)]
        by_cases b3 : (nt zFd l i).f2 = -1
        · rw [if_pos b3, if_pos b3]; rfl
        · rw [if_neg b3, if_neg b3, ht, wrap_id (x := (i : Int) - 1) (by omega) (by omega)]
          by_cases b4 : inB (nt zFd l i).f2 0 ((i : Int) - 1) = true
          · have hb : 0 ≤ (nt zFd l i).f2 ∧ (nt zFd l i).f2 ≤ (i : Int) - 1 := by simpa [inB] using b4
            have hn : nt zFd (l.take i) (nt zFd l i).f2.toNat = nt zFd l (nt zFd l i).f2.toNat := by
              have h1 : (nt zFd l i).f2.toNat < (l.take i).length := by omega
              have h2 : (nt zFd l i).f2.toNat < l.length := by omega
              exact (nt_lt _ zFd _ h1).trans (List.getElem_take.trans (nt_lt _ zFd _ h2).symm)
            rw [if_pos b4, if_pos hb.1, if_pos (by omega), rd_FdI, b4, hn]
            by_cases b5 : (nt zFd l (nt zFd l i).f2.toNat).f0 = 1
            · rw [if_pos b5, decide_eq_true b5]
              by_cases b6 : (nt zFd l (nt zFd l i).f2.toNat).f2 = -1
              · rw [if_pos b6, decide_eq_true b6]; rfl
              · rw [if_neg b6, decide_eq_false b6]; rfl
            · rw [if_neg b5, decide_eq_false b5]; rfl
          · rw [if_neg b4]; simp [b4]
      · rw [if_pos (by simp [b2])]; simp [b2]
    · rw [if_neg b1, if_pos trivial]; simp [b1]
  unfold impl_isField.f okFd
  rw [hj, hj]
  by_cases b0 : (nt zFd l i).f0 = 1
  · rw [if_pos b0, if_pos b0]
  · rw [if_neg b0, if_neg b0]
theorem impl_IsFormat_eq {l : List Fd} {k : Nat} (hl : l.length ≤ 1048576) (hk : l.length + 4 < k) : impl_IsFormat.f k l = some (isFormat l) := by
  unfold impl_IsFormat.f isFormat
  exact all_loop (g := fun k i => impl_IsFormat.l0 k l l (l.length : Int) (i : Int)) (n := l.length) (B := 4) (fun k => by
      simp only [impl_IsFormat.l0]; rw [if_neg (by omega), impl_InRange_eq, inB_dec]; rfl)
    (fun k i hi hk => by
      simp only [impl_IsFormat.l0]
      rw [if_pos (by omega), if_pos (by omega), if_pos (by omega), if_pos (by omega), rd_Fd, toNat_cast, impl_isField_eq hi hl (by omega), wrap_up (n := l.length) hi (by omega), Option.bind_some]) l.length k 0 (by omega) (by omega)

/-! ### impl_IsWithin -/
theorem impl_IsWithin_eq {l m : List Fd} {k : Nat} (hl : l.length ≤ 1048576) (hm : m.length ≤ 1048576) (hk : 4000000 < k) : impl_IsWithin.f k l m = some (isWithin l m) := by
  unfold impl_IsWithin.f isWithin
  rw [impl_IsFormat_eq hl (by omega), Option.bind_some, impl_IsFormat_eq hm (by omega), Option.bind_some]
  obtain ⟨k, rfl⟩ := succ_of hk
  simp only [impl_IsWithin.j0]
  cases isFormat l with
  | false => simp
  | true =>
    cases isFormat m with
    | false => simp
    | true =>
      rw [if_pos rfl, if_pos rfl]
      by_cases h : l.length = m.length
      · rw [if_neg (by simp [h])]
        have q := all_loop (g := fun k i => impl_IsWithin.l0 k m l (l.length : Int) (i : Int)) (n := l.length) (B := 0) (ok := fun i => withinFd (nt zFd l i) (nt zFd m i)) (fin := true) (fun k => by
            simp only [impl_IsWithin.l0]; rw [if_neg (by omega)])
          (fun k i hi _ => by
            simp only [impl_IsWithin.l0]
            rw [if_pos (by omega), if_pos (by omega), if_pos (by omega), if_pos (by omega), rd_Fd, rd_Fd, wrap_up (n := l.length) hi (by omega)]
            by_cases b4 : (nt zFd l i).f1 > (nt zFd m i).f1
            · rw [if_pos b4, if_neg (by simp [withinFd]; omega)]
            · rw [if_neg b4]
              by_cases b : (nt zFd l i).f0 = (nt zFd m i).f0 ∧ (nt zFd l i).f2 = (nt zFd m i).f2 ∧ (nt zFd l i).f3 = (nt zFd m i).f3
              · rw [if_neg (by simp [b.1, b.2.1, b.2.2]), if_pos (by simp [withinFd, b.1, b.2.1, b.2.2]; omega)]
              · rw [if_pos (by simp; omega), if_neg (by simp [withinFd]; omega)]) l.length k 0 (by omega) (by omega)
        simpa [h] using q
      · rw [if_pos (by simp; omega)]; simp [h]

/-! ### impl_BreakOf -/
theorem impl_BreakOf_eq {l m : List Fd} {k : Nat} (hl : l.length ≤ 1048576) (hm : m.length ≤ 1048576) (hk : 4000001 < k) : impl_BreakOf.f k l m = some (breakOf l m) := by
  unfold impl_BreakOf.f
  rw [impl_IsFormat_eq hl (by omega), Option.bind_some, impl_IsFormat_eq hm (by omega), Option.bind_some]
  obtain ⟨k, rfl⟩ := succ_of hk
  have J : ∀ b, impl_BreakOf.j0 (k + 1) l m b = some (if b = true then 4 else if eqFds l m = true then 0 else if isWithin l m = true then 1 else if isWithin m l = true then 3 else if l.length < m.length then (if isWithin l (m.take l.length) = true then 2 else 4) else 4) := by
    intro b
    simp only [impl_BreakOf.j0]
    have ht : (m.take l.length).length ≤ 1048576 := by rw [List.length_take]; omega
    rw [impl_EqualFormats_eq hl (by omega), impl_IsWithin_eq hl hm (by omega), impl_IsWithin_eq hm hl (by omega), toNat_cast, impl_IsWithin_eq hl ht (by omega)]
    simp only [Option.bind_some]
    cases b with
    | true => rfl
    | false =>
      cases eqFds l m with
      | true => rfl
      | false =>
        cases isWithin l m with
        | true => rfl
        | false =>
          cases isWithin m l with
          | true => rfl
          | false =>
            simp only [Bool.false_eq_true, if_false]
            by_cases q : l.length < m.length
            · rw [if_pos (by omega), if_pos (by omega), if_pos (by omega), if_pos q]
              cases isWithin l (m.take l.length) <;> rfl
            · rw [if_neg (by omega), if_neg q]
  simp only [J]
  unfold breakOf
  cases isFormat l <;> cases isFormat m <;> rfl

end FnExactBreakOfAid
open FnExactBreakOfAid

theorem FnExactBreakOf : laws_FnExactBreakOf.Pure := by
  intro l m hl _ hm _
  obtain ⟨k, hk⟩ : ∃ k, k = 4000000 + 1000 := ⟨_, rfl⟩
  refine ⟨k, ?_⟩
  unfold laws_FnExactBreakOf.f
  rw [laws_szFieldS_eq (by omega) (by omega) hl, Option.bind_some]
  by_cases hb : (1048576 : Int) < l.length
  · rw [if_pos hb, if_pos (by omega)]
  · rw [if_neg hb, if_neg (by omega), laws_szFieldS_eq (by omega) (by omega) hm, Option.bind_some]
    by_cases hc : (1048576 : Int) - l.length < m.length
    · rw [if_pos hc, if_pos (by omega)]
    · rw [if_neg hc, if_neg (by omega)]
      obtain ⟨L, hL⟩ : ∃ L, L = l.map convFd := ⟨_, rfl⟩
      obtain ⟨M, hM⟩ : ∃ M, M = m.map convFd := ⟨_, rfl⟩
      have lL : L.length = l.length := by rw [hL]; exact List.length_map ..
      have lM : M.length = m.length := by rw [hM]; exact List.length_map ..
      have f1 : laws_toFieldS.f k l = some L := by rw [laws_toFieldS_eq (by omega) (by omega), hL]
      have f2 : laws_toFieldS.f k m = some M := by rw [laws_toFieldS_eq (by omega) (by omega), hM]
      have f3 : spec_BreakOf.f k L M = some (breakOf L M) := spec_BreakOf_eq (by omega) (by omega) (by omega)
      have f4 : impl_BreakOf.f k L M = some (breakOf L M) := impl_BreakOf_eq (by omega) (by omega) (by omega)
      have f5 : laws_eqFieldS.f k L L = some true := laws_eqFieldS_self (by omega) (by omega)
      have f6 : laws_eqFieldS.f k M M = some true := laws_eqFieldS_self (by omega) (by omega)
      simp only [f1, f2, f3, f4, f5, f6, Option.bind_some, Bool.false_eq_true, if_true, if_false, ↓reduceIte, bne_self_eq_false, Bool.not_true, Bool.not_false, Nat.le_add_right, Nat.le_refl]

end Go.Proofs.Ytjinokcepdgknaa.Pure
