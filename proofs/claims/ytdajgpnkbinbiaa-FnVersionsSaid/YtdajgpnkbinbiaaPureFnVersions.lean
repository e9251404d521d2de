/- The law FnVersions answers true on every list of bytes, as a statement over lists alone; the bounds are those of memory. -/
import Derived.Test.YtdajgpnkbinbiaaPFnVersionsx5
import Derived.Test.YtdajgpnkbinbiaaGb
import Derived.Test.YtdajgpnkbinbiaaGr
import Derived.Test.YtdajgpnkbinbiaaGv
import Derived.Test.YtdajgpnkbinbiaaGm
namespace Go.Proofs.Ytdajgpnkbinbiaa.Pure
open Go.RowKit Go.Proofs.Ytdajgpnkbinbiaa.PFnVersions Go.Proofs.YtdajgpnkbinbiaaW.PrintWords Go.Proofs.YtdajgpnkbinbiaaW.PrintLast Go.Proofs.Ytdajgpnkbinbiaa.Gb Go.Proofs.Ytdajgpnkbinbiaa.Gr Go.Proofs.Ytdajgpnkbinbiaa.Gv Go.Proofs.Ytdajgpnkbinbiaa.Gm Go.Proofs.Ytdajgpnkbinbiaa
set_option linter.unusedSimpArgs false
set_option linter.unusedVariables false
namespace FnVersionsAid

/-! ### T_draw -/
theorem and_byte (x : Int) : 0 ≤ Go.bits .and .i64 x 255 ∧ Go.bits .and .i64 x 255 ≤ 255 := by
  have h : (BitVec.ofInt 64 x &&& BitVec.ofInt 64 255).toNat ≤ 255 := by
    rw [BitVec.toNat_and]
    exact Nat.le_trans Nat.and_le_right (by decide)
  have e : Go.bits .and .i64 x 255 = IntKind.i64.wrap ((BitVec.ofInt 64 x &&& BitVec.ofInt 64 255).toNat : Int) := rfl
  rw [e, IntKind.wrap_i64]; omega
theorem draw_new {l : List Int} {k : Nat} (hl : l.length ≤ 1048576) (hk : l.length < k) : ∃ s, spec_l1New.f k l = some (l, 0, s) := by
  unfold spec_l1New.f
  have h : ∀ (d k i : Nat) (s : Int), i + d = l.length → d < k → ∃ s', spec_l1New.l0 k l s (i : Int) = some (l, 0, s') := by
    intro d
    induction d with
    | zero =>
      intro k i s hi hk
      obtain ⟨k, rfl⟩ := succ_of hk
      simp only [spec_l1New.l0]
      rw [if_neg (by omega)]; exact ⟨_, rfl⟩
    | succ d ih =>
      intro k i s hi hk
      obtain ⟨k, rfl⟩ := succ_of hk
      simp only [spec_l1New.l0]
      rw [if_pos (by omega)]
      by_cases q : (i : Int) < 4000
      · rw [if_pos q, if_pos (by omega), wrap_up (n := l.length) (by omega) (by omega)]
        exact ih k (i + 1) _ (by omega) (by omega)
      · rw [if_neg q]; exact ⟨_, rfl⟩
  exact h l.length k 0 _ (by omega) hk
theorem draw_byte {l : List Int} {i s : Int} (hl : l.length ≤ 1048576) (hi : 0 ≤ i) : ∃ b j t, spec_l1Byte.f l i s = some (b, j, t) ∧ 0 ≤ b ∧ b ≤ 255 ∧ 0 ≤ j := by
  unfold spec_l1Byte.f
  by_cases q : i < (l.length : Int)
  · rw [if_pos q, if_pos hi]
    exact ⟨_, _, _, rfl, (and_byte _).1, (and_byte _).2, by rw [wrap_id (by omega) (by omega)]; omega⟩
  · rw [if_neg q]
    exact ⟨_, _, _, rfl, (and_byte _).1, (and_byte _).2, hi⟩
theorem draw_below {l : List Int} {i s n : Int} (hl : l.length ≤ 1048576) (hi : 0 ≤ i) (h0 : 0 < n) (h1 : n ≤ 256) : ∃ v j t, spec_l1Below.f l i s n = some (v, j, t) ∧ 0 ≤ v ∧ v < n ∧ 0 ≤ j := by
  unfold spec_l1Below.f
  obtain ⟨b, j, t, e, b0, b1, j0⟩ := draw_byte (s := s) hl hi
  rw [if_neg (by omega), if_pos h1, e, Option.bind_some, if_neg (by omega)]
  refine ⟨_, _, _, rfl, Int.tmod_nonneg _ b0, ?_, j0⟩
  exact Int.tmod_lt_of_pos _ h0

/-! ### T_put -/
/-- (putI: a number put into an ascending list: the library text Gm.) -/
theorem putI_nil (x : Int) : putI [] x = [x] := rfl

/-! ### spec_l4Put -/
theorem spec_l4Put_l0 (x : Int) : ∀ (rest done : List Int) (k : Nat), done.length + rest.length ≤ 2097152 → rest.length < k → spec_l4Put.l0 k (done ++ rest) x (done.length : Int) = some (done ++ putI rest x) := by
  intro rest
  induction rest with
  | nil =>
    intro done k hl hk
    obtain ⟨k, rfl⟩ := succ_of hk
    simp only [List.length_nil, Nat.add_zero] at hl
    simp only [spec_l4Put.l0, List.append_nil, Option.bind_some, toNat_cast, List.take_length, List.drop_length, List.nil_append, List.length_nil, List.length_singleton, List.length_append, Nat.zero_add, Nat.add_zero]
    rw [if_neg (by omega), if_pos (by omega), if_pos (by omega), if_pos (by omega), if_pos (by omega), if_pos (by omega)]
    rfl
  | cons y r ih =>
    intro done k hl hk
    obtain ⟨k, rfl⟩ := succ_of hk
    simp only [List.length_cons] at hl hk
    have ht : (done ++ y :: r).take done.length = done := by simp
    have hd : (done ++ y :: r).drop done.length = y :: r := by simp
    have hn : (done ++ y :: r).length = done.length + r.length + 1 := len_at done r y
    simp only [spec_l4Put.l0, Option.bind_some, toNat_cast, ht, hd, List.nil_append, List.length_nil, Nat.zero_add]
    rw [if_pos (by omega), if_pos (by omega), rd_cast, nt_at]
    simp only [putI]
    by_cases h1 : y < x
    · rw [if_pos h1, if_pos h1, wrap_up (n := done.length + 1) (by omega) (by omega)]
      have e := ih (done ++ [y]) k (by rw [len_snoc]; omega) (by omega)
      rw [List.append_assoc, List.singleton_append, len_snoc] at e
      rw [e, List.append_assoc]; rfl
    · rw [if_neg h1, if_neg h1]
      by_cases h2 : y = x
      · rw [if_pos h2, if_pos h2, if_pos (by omega)]
      · rw [if_neg h2, if_neg h2, if_pos (by omega), if_pos (by omega)]
        simp only [List.length_append, List.length_singleton, List.length_cons, List.length_nil, Nat.add_zero, Nat.zero_add]
        rw [if_pos (by omega), if_pos (by omega), List.append_assoc]; rfl
theorem spec_l4Put_eq {l : List Int} {x : Int} {k : Nat} (hl : l.length ≤ 1048576) (hk : l.length < k) : spec_l4Put.f k l x = some (putI l x) := by
  unfold spec_l4Put.f
  exact spec_l4Put_l0 x l [] k (by simp; omega) hk

/-! ### spec_l12Draw -/
theorem draw_l12_l0 {st : List Int} (hl : st.length ≤ 1048576) : ∀ (d k : Nat) (l : List Int) (i s : Int), 0 ≤ i → l.length + d ≤ 100 → 200 + d < k → 1 ≤ l.length → ∃ l' j t, spec_l12Draw.l0 k l (d : Int) st i s = some (l', j, t) ∧ 1 ≤ l'.length ∧ l'.length ≤ 100 ∧ 0 ≤ j := by
  intro d
  induction d with
  | zero =>
    intro k l i s hi hd hk h1
    obtain ⟨k, rfl⟩ := succ_of hk
    simp only [spec_l12Draw.l0]
    rw [if_neg (by omega)]
    exact ⟨_, _, _, rfl, h1, by omega, hi⟩
  | succ d ih =>
    intro k l i s hi hd hk h1
    obtain ⟨k, rfl⟩ := succ_of hk
    simp only [spec_l12Draw.l0]
    obtain ⟨v, j, t, e, v0, v1, j0⟩ := draw_below (s := s) (n := 6) hl hi (by omega) (by omega)
    have hp := putI_length l (wrap64 (1 + v))
    rw [if_pos (by omega), e, Option.bind_some]
    dsimp only
    rw [spec_l4Put_eq (by omega) (by omega), Option.bind_some, show wrap64 (((d + 1 : Nat) : Int) - 1) = (d : Int) by rw [wrap_id (by omega) (by omega)]; omega]
    exact ih k _ j t j0 (by omega) (by omega) (by omega)
theorem draw_l12 {st : List Int} {k : Nat} {i s : Int} (hl : st.length ≤ 1048576) (hi : 0 ≤ i) (hk : 300 < k) : ∃ l j t, spec_l12Draw.f k st i s = some (l, j, t) ∧ 1 ≤ l.length ∧ l.length ≤ 100 ∧ 0 ≤ j := by
  unfold spec_l12Draw.f
  obtain ⟨v, j, t, e, v0, v1, j0⟩ := draw_below (s := s) (n := 4) hl hi (by omega) (by omega)
  rw [e, Option.bind_some]
  obtain ⟨v2, j2, t2, e2, w0, w1, j1⟩ := draw_below (s := t) (n := 4) hl j0 (by omega) (by omega)
  rw [e2, Option.bind_some]
  obtain ⟨n, rfl⟩ : ∃ n : Nat, v2 = n := ⟨v2.toNat, by omega⟩
  exact draw_l12_l0 hl n k [wrap64 (1 + v)] j2 t2 j1 (by simp; omega) (by omega) (by simp)
theorem draw_any {st : List Int} {k : Nat} {i s : Int} (hl : st.length ≤ 1048576) (hi : 0 ≤ i) (hk : 300 < k) : ∃ l j t, spec_l12Any.f k st i s = some (l, j, t) ∧ l.length ≤ 101 ∧ 0 ≤ j := by
  unfold spec_l12Any.f
  obtain ⟨l, j, t, e, l1, l2, j0⟩ := draw_l12 (s := s) hl hi hk
  rw [e, Option.bind_some]
  obtain ⟨v, j2, t2, e2, v0, v1, j1⟩ := draw_below (s := t) (n := 9) hl j0 (by omega) (by omega)
  simp only [e2, Option.bind_some]
  by_cases q0 : v = 0
  · rw [if_pos q0]
    unfold spec_l1Int.f
    obtain ⟨v3, j3, t3, e3, x0, x1, j4⟩ := draw_below (s := t2) (n := 4) hl j1 (by omega) (by omega)
    rw [show ((([0, (-1), 9, 10] : List Int).length : Nat) : Int) = 4 from rfl, e3, Option.bind_some, if_pos x0, if_pos x1, Option.bind_some, if_pos (by omega)]
    exact ⟨_, _, _, rfl, by simp; omega, j4⟩
  · rw [if_neg q0]
    by_cases q1 : v = 1
    · rw [if_pos q1, if_pos (by omega), if_pos (by omega)]
      exact ⟨_, _, _, rfl, by simp; omega, j1⟩
    · rw [if_neg q1]
      by_cases q2 : v = 2
      · rw [if_pos q2]; exact ⟨_, _, _, rfl, by simp, j1⟩
      · rw [if_neg q2]; exact ⟨_, _, _, rfl, by omega, j1⟩

/-! ### T_add -/
def addVersion (l : List Int) (v : Int) : List Int × Bool := if (areVers l && (decide (1 ≤ v ∧ v ≤ 9) && !l.any (· == v))) = true then (putI l v, true) else (l, false)

/-! ### impl_InRange -/
theorem impl_InRange_eq (a b c : Int) : impl_InRange.f a b c = some (decide (b ≤ a ∧ a ≤ c)) := by
  unfold impl_InRange.f
  by_cases h : b ≤ a
  · rw [if_pos h]; simp [h]
  · rw [if_neg h, decide_eq_false (by omega)]

/-! ### impl_AreVersions -/
theorem impl_AreVersions_eq {l : List Int} {k : Nat} (hl : l.length ≤ 9223372036854775807) (hk : l.length < k) : impl_AreVersions.f k l = some (areVers l) := by
  unfold impl_AreVersions.f
  have h := all_loop (g := fun k i => impl_AreVersions.l0 k l l (l.length : Int) (i : Int)) (n := l.length) (B := 0) (ok := verOk l) (fin := decide (0 < l.length)) (fun k => by
      simp only [impl_AreVersions.l0]; rw [if_neg (by omega)]; congr 1; rw [decide_eq_decide]; omega)
    (fun k i hi _ => by
      simp only [impl_AreVersions.l0]
      rw [if_pos (by omega), if_pos (by omega), if_pos (by omega), impl_InRange_eq, Option.bind_some, wrap_up (n := l.length) hi hl, rd_cast]
      unfold verOk
      by_cases h1 : 1 ≤ nt 0 l i ∧ nt 0 l i ≤ 9
      · rw [decide_eq_true h1, if_pos rfl]
        by_cases h0 : 0 < i
        · rw [if_pos (by omega), wrap_dn h0 (by omega), if_pos (by omega), if_pos (by omega), rd_cast]
          by_cases h2 : nt 0 l (i - 1) < nt 0 l i
          · rw [if_neg (by omega), if_pos (by simp [h2])]
          · rw [if_pos (by omega), if_neg (by simp [h2]; omega)]
        · rw [if_neg (by omega), if_pos (by simp; omega)]
      · rw [decide_eq_false h1, if_neg (by simp), if_neg (by simp)]) l.length k 0 (by omega) (by omega)
  exact h

/-! ### slices_Index_int_int -/
theorem slices_Index_int_int_eq {l : List Int} {n : Int} {k : Nat} (hl : l.length ≤ 9223372036854775807) (hk : l.length < k) : slices_Index_int_int.f k l n = some ((l.findIdx? (· == n)).elim (-1) fun j => (j : Int)) := by
  unfold slices_Index_int_int.f
  have h := find_loop (g := fun k i => slices_Index_int_int.l0 k l n (l.length : Int) (i : Int)) (l := l) (z := 0) (B := 0) (p := (· == n)) (hit := fun j => (j : Int)) (miss := (-1 : Int)) (fun k => by
      simp only [slices_Index_int_int.l0]; rw [if_neg (by omega)])
    (fun k i hi _ => by
      simp only [slices_Index_int_int.l0]
      rw [if_pos (by omega), if_pos (by omega), if_pos (by omega), wrap_up (n := l.length) hi hl, rd_cast]
      by_cases e : nt 0 l i = n
      · rw [if_pos e.symm, if_pos (by simp [e])]
      · rw [if_neg (fun h => e h.symm), if_neg (by simp [e])]) l.length k 0 (by omega) (by omega)
  simpa using h

/-! ### slices_Contains_int_int -/
theorem slices_Contains_int_int_eq {l : List Int} {n : Int} {k : Nat} (hl : l.length ≤ 9223372036854775807) (hk : l.length < k) : slices_Contains_int_int.f k l n = some (l.any (· == n)) := by
  unfold slices_Contains_int_int.f
  rw [slices_Index_int_int_eq hl hk, Option.bind_some, idx_any]

/-! ### impl_without -/
theorem impl_without_eq {a b : List Int} {k : Nat} (ha : a.length ≤ 17592186044416) (hb : b.length ≤ 9223372036854775807) (hk : a.length + b.length + 1 < k) : impl_without.f k a b = some (a.filter fun x => !b.any (· == x)) := by
  unfold impl_without.f
  have h := filter_loop (g := fun k acc i => impl_without.l0 k b acc a (a.length : Int) (i : Int)) (l := a) (z := 0) (B := b.length + 1) (p := fun x => !b.any (· == x)) (f := id) (fun k acc => by
      simp only [impl_without.l0]; rw [if_neg (by omega)])
    (fun k i acc hi hk hacc => by
      simp only [impl_without.l0]
      rw [if_pos (by omega), if_pos (by omega), if_pos (by omega), wrap_up (n := a.length) hi (by omega), rd_cast, slices_Contains_int_int_eq hb (by omega), Option.bind_some, if_pos (show acc.length < 17592186044416 by omega)]
      cases b.any (· == nt 0 a i) <;> rfl) a.length k 0 [] (by omega) (by omega) (by simp)
  simpa using h

/-! ### impl_DropVersion -/
theorem impl_DropVersion_eq {l : List Int} {v : Int} {k : Nat} (hl : l.length ≤ 1048576) (hk : l.length + 3 < k) : impl_DropVersion.f k l v = some (dropVersion l v) := by
  unfold impl_DropVersion.f dropVersion
  have e0 : ([] : List Int).length + l.length < 17592186044416 := by rw [List.length_nil]; omega
  have e : (fun x => !([v] : List Int).any (· == x)) = fun x => !(x == v) := by funext x; simp; exact Bool.beq_comm
  simp only [impl_AreVersions_eq (l := l) (k := k) (by omega) (by omega), slices_Contains_int_int_eq (l := l) (n := v) (k := k) (by omega) (by omega), impl_without_eq (a := l) (b := [v]) (k := k) (by omega) (by simp) (by simp; omega), e, Option.bind_some, List.nil_append, if_pos e0]
  cases areVers l <;> cases l.any (· == v) <;> simp
  by_cases h1 : l.length = 1
  · rw [if_pos (by omega), if_pos h1]
  · rw [if_neg (by omega), if_neg h1]

/-! ### impl_SpansOf -/
theorem impl_SpansOf_eq {l : List Int} {k : Nat} (hl : l.length ≤ 1048576) (hk : l.length + 2 < k) : impl_SpansOf.f k l = some (spansOf l) := by
  unfold impl_SpansOf.f
  rw [impl_AreVersions_eq (by omega) (by omega), Option.bind_some]
  cases hA : areVers l with
  | false => simp [spansOf, hA]
  | true =>
    obtain ⟨hr, _, hne⟩ := (areVers_iff l).1 hA
    have hpos : 0 < l.length := List.length_pos_iff.2 hne
    rw [if_pos rfl]
    have hloop : ∀ (d k i : Nat) (n : Int), i + d = l.length → d < k → 0 < i → 0 ≤ n → n ≤ i → impl_SpansOf.l0 k l n (i : Int) = some (n + gapsFrom l i d) := by
      intro d
      induction d with
      | zero =>
        intro k i n h hk hi h0 h1
        obtain ⟨k, rfl⟩ := succ_of hk
        simp only [impl_SpansOf.l0]
        rw [if_neg (by omega)]; simp [gapsFrom]
      | succ d ih =>
        intro k i n h hk hi h0 h1
        obtain ⟨k, rfl⟩ := succ_of hk
        have hp := hr _ (List.getElem_mem (show i - 1 < l.length by omega))
        simp only [impl_SpansOf.l0]
        rw [if_pos (by omega), if_pos (by omega), wrap_up (n := l.length) (by omega) (by omega), wrap_id (x := n + 1) (by omega) (by omega), wrap_dn (i := i) hi (by omega), if_pos (by omega), if_pos (by omega), rd_cast, rd_cast,
          wrap_id (x := nt 0 l (i - 1) + 1) (by rw [nt_lt _ _ _ (show i - 1 < l.length by omega)]; omega) (by rw [nt_lt _ _ _ (show i - 1 < l.length by omega)]; omega)]
        by_cases e : nt 0 l i = nt 0 l (i - 1) + 1
        · rw [if_pos e, ih k (i + 1) n (by omega) (by omega) (by omega) h0 (by omega)]
          simp [gapsFrom, gap, e]; omega
        · rw [if_neg e, ih k (i + 1) (n + 1) (by omega) (by omega) (by omega) (by omega) (by omega)]
          have e' : ¬ (nt 0 l (i - 1) + 1 = nt 0 l i) := fun h => e h.symm
          have hi0 : ¬ i = 0 := by omega
          simp [gapsFrom, gap, e', hi0]; omega
    have h := hloop (l.length - 1) k 1 1 (by omega) (by omega) (by omega) (by omega) (by omega)
    rw [show ((1 : Nat) : Int) = 1 from rfl] at h
    rw [h]
    have e : l.length = (l.length - 1) + 1 := by omega
    unfold spansOf
    rw [hA, if_pos rfl, e, gapsFrom]; simp [gap]

/-! ### T_vers -/
theorem common_comm {a b : List Int} (ha : areVers a = true) (hb : areVers b = true) : common a b = common b a := by
  obtain ⟨_, h2, _⟩ := (areVers_iff a).1 ha
  obtain ⟨_, h3, _⟩ := (areVers_iff b).1 hb
  refine strict_ext (h2.filter _) (h3.filter _) fun x => ?_
  unfold common
  simp only [List.mem_filter, List.any_eq_true, beq_iff_eq, exists_eq_right]
  exact And.comm
theorem best_comm (a b : List Int) : bestCommon a b = bestCommon b a := by
  unfold bestCommon
  cases ha : areVers a with
  | false => simp
  | true =>
    cases hb : areVers b with
    | false => simp
    | true => rw [common_comm ha hb]
theorem best_self {a : List Int} (ha : areVers a = true) : bestCommon a a = nt 0 a (a.length - 1) := by
  obtain ⟨_, _, hne⟩ := (areVers_iff a).1 ha
  have hpos := List.length_pos_iff.2 hne
  have e : common a a = a := by
    unfold common
    rw [List.filter_eq_self]
    intro x hx
    simp [hx]
  unfold bestCommon
  rw [e, ha, nt_lt _ _ _ (by omega)]
  simp only [Bool.and_self, if_true]
  rw [List.getLastD_eq_getLast?, List.getLast?_eq_getElem?, List.getElem?_eq_getElem (by omega), Option.getD_some]
theorem last_mem {c : List Int} (h : 0 < c.getLastD 0) : c.getLastD 0 ∈ c := by
  cases c with
  | nil => simp at h
  | cons x r => rw [List.getLastD_eq_getLast?, List.getLast?_eq_some_getLast (by simp), Option.getD_some]; exact List.getLast_mem _
theorem sorted_last {c : List Int} (h : c.Pairwise (· < ·)) : ∀ x ∈ c, x ≤ c.getLastD 0 := by
  induction c with
  | nil => intro x hx; simp at hx
  | cons y r ih =>
    intro x hx
    obtain ⟨h1, h2⟩ := List.pairwise_cons.1 h
    rw [List.getLastD_cons]
    cases r with
    | nil => simp at hx; simp [hx]
    | cons z r =>
      have e : (z :: r).getLastD y = (z :: r).getLastD 0 := by rw [List.getLastD_cons, List.getLastD_cons]
      rw [e]
      rcases List.mem_cons.1 hx with rfl | hx
      · have := h1 z (by simp)
        have := ih h2 z (by simp)
        omega
      · exact ih h2 x hx
theorem best_pos {a b : List Int} (h : 0 < bestCommon a b) : areVers a = true ∧ areVers b = true ∧ bestCommon a b ∈ common a b ∧ ∀ x ∈ common a b, x ≤ bestCommon a b := by
  unfold bestCommon at h ⊢
  cases ha : areVers a with
  | false => simp [ha] at h
  | true =>
    cases hb : areVers b with
    | false => simp [hb] at h
    | true =>
      simp only [ha, hb, Bool.and_self, if_true] at h ⊢
      obtain ⟨_, h2, _⟩ := (areVers_iff a).1 ha
      exact ⟨trivial, trivial, last_mem h, fun x hx => sorted_last (h2.filter _) x hx⟩
theorem best_iff {a b : List Int} (ha : areVers a = true) (hb : areVers b = true) : 0 < bestCommon a b ↔ 0 < (common a b).length := by
  constructor
  · intro h
    exact List.length_pos_of_mem (best_pos h).2.2.1
  · intro h
    obtain ⟨h1, h2, _⟩ := (areVers_iff a).1 ha
    obtain ⟨x, r, e⟩ := List.exists_cons_of_length_pos h
    have hx : x ∈ common a b := by rw [e]; simp
    have q := sorted_last (h2.filter (fun x => b.any (· == x))) x hx
    have := h1 x (List.mem_filter.1 hx).1
    unfold bestCommon
    simp only [ha, hb, Bool.and_self, if_true]
    unfold common at *
    omega
def gL : Int → List Int → Int
  | _, [] => 0
  | p, x :: r => (if p + 1 = x then 0 else 1) + gL x r
theorem gaps_gL : ∀ (r done : List Int) (p : Int), gapsFrom (done ++ p :: r) (done.length + 1) r.length = gL p r
  | [], _, _ => rfl
  | x :: r, done, p => by
    have ih := gaps_gL r (done ++ [p]) x
    rw [List.append_assoc, List.singleton_append, len_snoc] at ih
    have e1 : nt 0 (done ++ p :: x :: r) (done.length + 1) = x := by
      have := nt_at 0 (done ++ [p]) r x
      rwa [List.append_assoc, List.singleton_append, len_snoc] at this
    have g : gap (done ++ p :: x :: r) (done.length + 1) = !decide (p + 1 = x) := by
      unfold gap
      rw [show done.length + 1 - 1 = done.length by omega, nt_at, e1]; simp
    simp only [List.length_cons, gapsFrom, gL, ih, g]
    by_cases q : p + 1 = x
    · simp [q]
    · simp [q]
theorem spans_cons (x : Int) (r : List Int) (h : areVers (x :: r) = true) : spansOf (x :: r) = 1 + gL x r := by
  unfold spansOf
  rw [if_pos h, List.length_cons, gapsFrom]
  have := gaps_gL r [] x
  simp only [List.nil_append, List.length_nil, Nat.zero_add] at this
  rw [this]; simp [gap]
theorem gL_put (v : Int) : ∀ (r : List Int) (p : Int), v ∉ r → p < v → gL p (putI r v) ≤ gL p r + 1
  | [], p, _, _ => by simp only [putI, gL]; split <;> omega
  | y :: r, p, hv, hp => by
    have hy : ¬ v = y := fun e => hv (by simp [e])
    simp only [putI]
    by_cases q : y < v
    · rw [if_pos q]
      have := gL_put v r y (fun h => hv (List.mem_cons_of_mem _ h)) q
      simp only [gL]
      omega
    · rw [if_neg q, if_neg (fun e => hy e.symm)]
      simp only [gL]
      by_cases q1 : p + 1 = y
      · omega
      · rw [if_neg q1]
        split <;> split <;> omega
theorem add_drop {l u : List Int} {v : Int} (h : addVersion l v = (u, true)) : areVers u = true ∧ areVers l = true ∧ dropVersion u v = (l, true) ∧ spansOf u ≤ spansOf l + 1 := by
  unfold addVersion at h
  by_cases q : (areVers l && (decide (1 ≤ v ∧ v ≤ 9) && !l.any (· == v))) = true
  · rw [if_pos q] at h
    obtain ⟨rfl, _⟩ := Prod.mk.inj h
    simp only [Bool.and_eq_true, decide_eq_true_eq, Bool.not_eq_true', List.any_eq_false, beq_iff_eq] at q
    obtain ⟨q1, q2, q3⟩ := q
    obtain ⟨h1, h2, h3⟩ := (areVers_iff l).1 q1
    have hv : v ∉ l := fun e => q3 v e rfl
    have s := strict_putI h2 v
    have hu : areVers (putI l v) = true := by
      refine (areVers_iff _).2 ⟨fun x hx => ?_, s, ?_⟩
      · rcases (mem_putI l v x).1 hx with rfl | hx
        · exact q2
        · exact h1 x hx
      · have := (putI_length l v).2.1
        exact List.length_pos_iff.1 (by omega)
    refine ⟨hu, q1, ?_, ?_⟩
    · have hl : (putI l v).length ≠ 1 := by
        intro e
        obtain ⟨y, hy⟩ := List.length_eq_one_iff.1 e
        obtain ⟨x, r, hx⟩ := List.exists_cons_of_ne_nil h3
        have m1 : v ∈ putI l v := (mem_putI l v v).2 (.inl rfl)
        have m2 : x ∈ putI l v := (mem_putI l v x).2 (.inr (by rw [hx]; simp))
        rw [hy] at m1 m2
        simp at m1 m2
        exact hv (by rw [hx, m1, m2]; simp)
      have hf : (putI l v).filter (fun x => !(x == v)) = l := by
        refine strict_ext (s.filter _) h2 fun x => ?_
        rw [List.mem_filter, mem_putI]
        constructor
        · rintro ⟨rfl | h, q⟩
          · simp at q
          · exact h
        · intro h
          exact ⟨.inr h, by simp; intro e; exact hv (e ▸ h)⟩
      unfold dropVersion
      rw [hf, hu]
      have m1 : (putI l v).any (· == v) = true := List.any_eq_true.2 ⟨v, (mem_putI l v v).2 (.inl rfl), by simp⟩
      rw [m1]
      simp [hl]
    · cases l with
      | nil => exact absurd rfl h3
      | cons x r =>
        rw [spans_cons x r q1]
        have hxv : ¬ x = v := fun e => hv (by simp [e])
        by_cases q : x < v
        · have e : putI (x :: r) v = x :: putI r v := by simp only [putI]; rw [if_pos q]
          rw [e] at hu ⊢
          rw [spans_cons _ _ hu]
          have := gL_put v r x (fun h => hv (List.mem_cons_of_mem _ h)) q
          omega
        · have e : putI (x :: r) v = v :: x :: r := by simp only [putI]; rw [if_neg q, if_neg hxv]
          rw [e] at hu ⊢
          rw [spans_cons _ _ hu]
          simp only [gL]
          split <;> omega
  · rw [if_neg q] at h
    exact absurd (Prod.mk.inj h).2 (by simp)

/-! ### laws_contains -/
theorem laws_contains_eq {l : List Int} {v : Int} {k : Nat} (hl : l.length ≤ 1048576) (hk : l.length < k) : laws_contains.f k l v = some (l.any (· == v)) := by
  unfold laws_contains.f
  exact any_loop (g := fun k i => laws_contains.l0 k l v (i : Int)) (l := l) (z := 0) (B := 0) (p := fun x => x == v) (fun k => by
      simp only [laws_contains.l0]; rw [if_neg (by omega)])
    (fun k i hi _ => by
      simp only [laws_contains.l0]
      rw [if_pos (by omega), if_pos (by omega), rd_cast, wrap_up (n := l.length) hi (by omega)]
      by_cases q : nt 0 l i = v
      · rw [if_pos q, if_pos (by simp [q])]
      · rw [if_neg q, if_neg (by simp [q])]) l.length k 0 (by omega) (by omega)

/-! ### slices_Equal_int_int -/
theorem slices_Equal_int_int_l0 (a b : List Int) (hl : a.length ≤ 9223372036854775807) (he : b.length = a.length) : ∀ (d k i : Nat), i + d = a.length → d < k → slices_Equal_int_int.l0 k a b (a.length : Int) (i : Int) = some (decide (a.drop i = b.drop i)) := by
  intro d
  induction d with
  | zero =>
    intro k i h hk
    obtain ⟨k, rfl⟩ := succ_of hk
    obtain rfl : i = a.length := by omega
    simp only [slices_Equal_int_int.l0]; rw [if_neg (by omega), drop_end, ← he, drop_end]; rfl
  | succ d ih =>
    intro k i h hk
    obtain ⟨k, rfl⟩ := succ_of hk
    simp only [slices_Equal_int_int.l0]
    rw [if_pos (by omega), if_pos (by omega), if_pos (by omega), if_pos (by omega), rd_cast, rd_cast, drop_step a 0 i (by omega), drop_step b 0 i (by omega), wrap_up (n := a.length) (by omega) hl, ih k (i + 1) (by omega) (by omega)]
    by_cases e : nt 0 a i = nt 0 b i
    · rw [if_pos e]; simp [e]
    · rw [if_neg e]; simp [e]
theorem slices_Equal_int_int_eq {a b : List Int} {k : Nat} (hl : a.length ≤ 9223372036854775807) (hk : a.length < k) : slices_Equal_int_int.f k a b = some (decide (a = b)) := by
  unfold slices_Equal_int_int.f
  by_cases e : a.length = b.length
  · rw [if_pos (by omega)]
    exact slices_Equal_int_int_l0 a b hl e.symm a.length k 0 (by omega) hk
  · rw [if_neg (by omega), decide_eq_false (fun h => e (by rw [h]))]

/-! ### impl_EqualInts -/
theorem impl_EqualInts_eq {a b : List Int} {k : Nat} (hl : a.length ≤ 9223372036854775807) (hk : a.length < k) : impl_EqualInts.f k a b = some (decide (a = b)) := by
  unfold impl_EqualInts.f
  rw [slices_Equal_int_int_eq hl hk, Option.bind_some]

/-! ### impl_AddVersion -/
theorem merge_put {l : List Int} {v : Int} (hs : l.Pairwise (· < ·)) (hv : l.any (· == v) = false) : ((l ++ [v]).mergeSort fun x y => decide (x ≤ y)) = putI l v := by
  have h1 : ((l ++ [v]).mergeSort fun x y => decide (x ≤ y)).Pairwise (· < ·) := by
    have hp : ((l ++ [v]).mergeSort fun x y => decide (x ≤ y)).Pairwise (· ≤ ·) := by
      have := List.pairwise_mergeSort (le := fun x y : Int => decide (x ≤ y)) (fun a b c h1 h2 => by simp at *; omega) (fun a b => by simp; omega) (l ++ [v])
      exact this.imp fun h => by simpa using h
    have hn : ((l ++ [v]).mergeSort fun x y => decide (x ≤ y)).Nodup := by
      rw [List.Perm.nodup_iff (List.mergeSort_perm _ _), List.nodup_append]
      refine ⟨hs.imp fun h e => by omega, by simp, fun a ha b hb e => ?_⟩
      rw [List.mem_singleton] at hb
      subst hb; subst e
      rw [List.any_eq_false] at hv
      exact hv _ ha (by simp)
    exact (hp.and hn).imp fun ⟨h1, h2⟩ => by
      have : _ ≠ _ := h2
      omega
  refine strict_ext h1 (strict_putI hs v) fun x => ?_
  rw [List.mem_mergeSort, List.mem_append, List.mem_singleton, mem_putI]
  exact Or.comm
theorem impl_AddVersion_eq {l : List Int} {v : Int} {k : Nat} (hl : l.length ≤ 1048576) (hk : l.length + 1 < k) : impl_AddVersion.f k l v = some (addVersion l v) := by
  unfold impl_AddVersion.f addVersion
  have e0 : l.length < 17592186044416 := by omega
  simp only [impl_AreVersions_eq (l := l) (k := k) (by omega) (by omega), impl_InRange_eq, slices_Contains_int_int_eq (l := l) (n := v) (k := k) (by omega) (by omega), Option.bind_some, List.nil_append, List.length_nil, Nat.zero_add, if_pos e0]
  cases h1 : areVers l with
  | false => rfl
  | true =>
    cases decide (1 ≤ v ∧ v ≤ 9) with
    | false => rfl
    | true =>
      cases h3 : l.any (· == v) with
      | true => rfl
      | false =>
        obtain ⟨_, hs, _⟩ := (areVers_iff l).1 h1
        unfold slices_Sort_int_int.f
        rw [if_pos rfl, if_pos rfl, if_neg (by simp), if_pos (by rw [List.length_append, List.length_singleton]; omega), Option.bind_some, merge_put hs h3]; rfl

/-! ### impl_CommonOf -/
theorem impl_CommonOf_eq {a b : List Int} {k : Nat} (ha : a.length ≤ 17592186044416) (hb : b.length ≤ 9223372036854775807) (hk : a.length + b.length + 1 < k) : impl_CommonOf.f k a b = some (a.filter fun x => b.any (· == x)) := by
  unfold impl_CommonOf.f
  have h := filter_loop (g := fun k acc i => impl_CommonOf.l0 k b acc a (a.length : Int) (i : Int)) (l := a) (z := 0) (B := b.length + 1) (p := fun x => b.any (· == x)) (f := id) (fun k acc => by
      simp only [impl_CommonOf.l0]; rw [if_neg (by omega)])
    (fun k i acc hi hk hacc => by
      simp only [impl_CommonOf.l0]
      rw [if_pos (by omega), if_pos (by omega), if_pos (by omega), wrap_up (n := a.length) hi (by omega), rd_cast, slices_Contains_int_int_eq hb (by omega), Option.bind_some, if_pos (show acc.length < 17592186044416 by omega)]
      rfl) a.length k 0 [] (by omega) (by omega) (by simp)
  simpa using h

/-! ### impl_BestCommon -/
theorem impl_BestCommon_l0 (c : List Int) (hc : c.length ≤ 1048576) (k : Nat) (hk : c.length < k) (s : Int) : impl_BestCommon.l0 k s c (c.length : Int) 0 = some (c.foldl mx s) := by
  have h := fold_loop (g := fun k s i => impl_BestCommon.l0 k s c (c.length : Int) (i : Int)) (n := c.length) (B := 0) (f := fun i s => mx s (nt 0 c i)) (fin := id) (fun _ _ => True) (fun k s _ => by
      simp only [impl_BestCommon.l0]; rw [if_neg (by omega)]; rfl)
    (fun k i s hi _ _ => by
      refine ⟨?_, trivial⟩
      simp only [impl_BestCommon.l0]
      rw [if_pos (by omega), if_pos (by omega), if_pos (by omega), wrap_up (n := c.length) hi (by omega), rd_cast]) c.length k 0 s (by omega) (by omega) trivial
  rw [foldFrom_list (f := mx)] at h
  simpa using h
theorem impl_BestCommon_eq {a b : List Int} {k : Nat} (ha : a.length ≤ 1048576) (hb : b.length ≤ 1048576) (hk : 2 * a.length + b.length + 5 < k) : impl_BestCommon.f k a b = some (bestCommon a b) := by
  unfold impl_BestCommon.f
  have hcl : (common a b).length ≤ a.length := List.length_filter_le _ _
  obtain ⟨k, rfl⟩ := succ_of (show 0 < k by omega)
  rw [impl_AreVersions_eq (by omega) (by omega), Option.bind_some]
  have hf : impl_BestCommon.j0 (k + 1) a b true = some 0 := by simp only [impl_BestCommon.j0, if_true]
  cases hA : areVers a with
  | false => rw [if_neg (by simp), hf]; simp [bestCommon, hA]
  | true =>
    rw [if_pos rfl, impl_AreVersions_eq (by omega) (by omega), Option.bind_some]
    cases hB : areVers b with
    | false => rw [Bool.not_false, hf]; simp [bestCommon, hA, hB]
    | true =>
      simp only [impl_BestCommon.j0, Bool.not_true, Bool.false_eq_true, if_false]
      have hc : impl_CommonOf.f k a b = some (common a b) := impl_CommonOf_eq (by omega) (by omega) (by omega)
      rw [hc, Option.bind_some, impl_BestCommon_l0 _ (by omega) _ (by omega), best_max hA]
      simp [bestCommon, hA, hB]

/-! ### spec_l1In -/
theorem spec_l1In_eq (a b c : Int) : spec_l1In.f a b c = some (decide (b ≤ a ∧ a ≤ c)) := by
  unfold spec_l1In.f
  by_cases h : a ≥ b
  · rw [if_pos h]; simp [show b ≤ a from h]
  · rw [if_neg h, decide_eq_false (by omega)]

/-! ### spec_AreVersions -/
theorem spec_AreVersions_eq {l : List Int} {k : Nat} (hl : l.length ≤ 9223372036854775807) (hk : l.length < k) : spec_AreVersions.f k l = some (areVers l) := by
  unfold spec_AreVersions.f
  have h := all_loop (g := fun k i => spec_AreVersions.l0 k l (i : Int)) (n := l.length) (B := 0) (ok := verOk l) (fin := decide (0 < l.length)) (fun k => by
      simp only [spec_AreVersions.l0]; rw [if_neg (by omega)]; congr 1; rw [decide_eq_decide]; omega)
    (fun k i hi _ => by
      simp only [spec_AreVersions.l0]
      rw [if_pos (by omega), if_pos (by omega), spec_l1In_eq, Option.bind_some, wrap_up (n := l.length) hi hl, rd_cast]
      unfold verOk
      by_cases h1 : 1 ≤ nt 0 l i ∧ nt 0 l i ≤ 9
      · rw [decide_eq_true h1, if_pos rfl]
        by_cases h0 : 0 < i
        · rw [if_pos (by omega), wrap_dn h0 (by omega), if_pos (by omega), if_pos (by omega), rd_cast]
          by_cases h2 : nt 0 l (i - 1) < nt 0 l i
          · rw [if_neg (by omega), if_pos (by simp [h2])]
          · rw [if_pos (by omega), if_neg (by simp [h2]; omega)]
        · rw [if_neg (by omega), if_pos (by simp; omega)]
      · rw [decide_eq_false h1, if_neg (by simp), if_neg (by simp)]) l.length k 0 (by omega) (by omega)
  exact h

end FnVersionsAid
open FnVersionsAid

theorem FnVersions_j3 {a b : List Int} {k : Nat} (ha : a.length ≤ 101) (hb : b.length ≤ 101) (hk : 1000 < k) : laws_FnVersions.j3 (k + 1) a b (bestCommon a b) (common a b) false = some true := by
  simp only [laws_FnVersions.j3, Bool.false_eq_true, if_false]
  rw [impl_AreVersions_eq (by omega) (by omega), Option.bind_some, impl_AreVersions_eq (by omega) (by omega), Option.bind_some]
  cases hA : areVers a with
  | false => simp [bestCommon, hA]
  | true =>
    cases hB : areVers b with
    | false => simp [bestCommon, hA, hB]
    | true =>
      have h := best_iff hA hB
      by_cases q : 0 < (common a b).length
      · rw [if_pos (by omega), if_pos rfl, decide_eq_true (show bestCommon a b > 0 from h.2 q)]; rfl
      · rw [if_neg (by omega), decide_eq_false (fun e => q (h.1 e))]; rfl
theorem FnVersions_j2 {st a b : List Int} {k : Nat} {x : Int} (hs : st.length ≤ 1048576) (ha : a.length ≤ 101) (hb : b.length ≤ 101) (hk : 1048576 + 2000 < k) : laws_FnVersions.j2 (k + 1) st a b (bestCommon a b) (common a b) x false = some true := by
  simp only [laws_FnVersions.j2, Bool.false_eq_true, if_false]
  unfold spec_DrawAddVersion.f
  obtain ⟨s, e1⟩ := draw_new (k := k) hs (by omega)
  obtain ⟨l, j, t, e2, l1, j0⟩ := draw_any (k := k) (s := s) hs (Int.le_refl 0) (by omega)
  obtain ⟨v, j2, t2, e3, v0, v1, j1⟩ := draw_below (s := t) (n := 12) hs j0 (by omega) (by omega)
  simp only [e1, Option.bind_some, e2, e3]
  obtain ⟨V, hV⟩ : ∃ V, V = wrap64 (v - 1) := ⟨_, rfl⟩
  rw [← hV, impl_AddVersion_eq (by omega) (by omega), Option.bind_some]
  have e4 := FnVersions_j3 (a := a) (b := b) (k := k - 1) ha hb (by omega)
  rw [show k - 1 + 1 = k by omega] at e4
  have hl : (addVersion l V).1.length ≤ l.length + 1 := by
    unfold addVersion
    split
    · exact (putI_length l V).2.2
    · exact Nat.le_succ _
  obtain ⟨⟨u, ok⟩, hu⟩ : ∃ u, u = addVersion l V := ⟨_, rfl⟩
  rw [← hu] at hl ⊢
  cases ok with
  | true =>
    obtain ⟨h1, h2, h3, h4⟩ := add_drop hu.symm
    simp only [if_true] at hl ⊢
    rw [impl_DropVersion_eq (by omega) (by omega), h3, Option.bind_some, impl_AreVersions_eq (by omega) (by omega), h1, Option.bind_some, if_pos rfl, if_pos rfl]
    dsimp only
    rw [impl_EqualInts_eq (by omega) (by omega), Option.bind_some, if_pos (by simp), impl_SpansOf_eq (by omega) (by omega), Option.bind_some, impl_SpansOf_eq (by omega) (by omega), Option.bind_some]
    have g : 0 ≤ spansOf l ∧ spansOf l ≤ 1000 := by
      have hg : ∀ (d i : Nat), 0 ≤ gapsFrom l i d ∧ gapsFrom l i d ≤ d := by
        intro d
        induction d with
        | zero => intro i; simp [gapsFrom]
        | succ d ih =>
          intro i
          have := ih (i + 1)
          simp only [gapsFrom]
          split <;> omega
      unfold spansOf
      rw [if_pos h2]
      have := hg l.length 0
      omega
    rw [wrap_id (by omega) (by omega), decide_eq_false (by omega)]
    exact e4
  | false =>
    simp only [Bool.false_eq_true, if_false]
    have e5 := e4
    rw [← show k - 1 + 1 = k by omega] at e5
    simp only [laws_FnVersions.j3, Bool.false_eq_true, if_false] at e5
    rw [impl_AreVersions_eq (by omega) (by omega), Option.bind_some, impl_AreVersions_eq (by omega) (by omega), Option.bind_some] at e5 ⊢
    exact e5
theorem FnVersions_l0 {st a b : List Int} (hs : st.length ≤ 1048576) (ha : a.length ≤ 101) (hb : b.length ≤ 101) : ∀ (d k i : Nat), i + d = (common a b).length → 2 * d + 1048576 + 3000 < k → laws_FnVersions.l0 k st a b (bestCommon a b) (common a b) (i : Int) = some true := by
  have hc : (common a b).length ≤ a.length := List.length_filter_le _ _
  intro d
  induction d with
  | zero =>
    intro k i hi hk
    obtain ⟨k, rfl⟩ := succ_of hk
    obtain ⟨k, rfl⟩ := succ_of (show 0 < k by omega)
    simp only [laws_FnVersions.l0]
    rw [if_neg (by omega)]
    exact FnVersions_j2 hs ha hb (by omega)
  | succ d ih =>
    intro k i hi hk
    obtain ⟨k, rfl⟩ := succ_of hk
    obtain ⟨k, rfl⟩ := succ_of (show 0 < k by omega)
    simp only [laws_FnVersions.l0]
    rw [if_pos (by omega)]
    by_cases q : bestCommon a b > 0
    · rw [decide_eq_true q]
      simp only [laws_FnVersions.j2, if_true]
      have hm := (best_pos q).2.2.2 (nt 0 (common a b) i) (nt_mem 0 _ i (by omega))
      rw [if_pos (by omega), if_pos (by omega), rd_cast, if_neg (by omega), wrap_up (n := (common a b).length) (by omega) (by omega)]
      exact ih k (i + 1) (by omega) (by omega)
    · rw [decide_eq_false q]
      exact FnVersions_j2 hs ha hb (by omega)
theorem FnVersions_j0 {st a b : List Int} {k : Nat} (hs : st.length ≤ 1048576) (ha : a.length ≤ 101) (hb : b.length ≤ 101) (hk : 1048576 + 4000 < k) : laws_FnVersions.j0 (k + 1) st a b (bestCommon a b) false = some true := by
  have hc : (common a b).length ≤ a.length := List.length_filter_le _ _
  simp only [laws_FnVersions.j0, Bool.false_eq_true, if_false]
  have e : impl_CommonOf.f k a b = some (common a b) := impl_CommonOf_eq (by omega) (by omega) (by omega)
  rw [e, Option.bind_some]
  exact FnVersions_l0 hs ha hb (common a b).length k 0 (by omega) (by omega)
theorem FnVersions : laws_FnVersions.Pure := by
  intro st _ _ _
  obtain ⟨k, hk⟩ : ∃ k, k = 1048576 + 5000 + 1 := ⟨_, rfl⟩
  refine ⟨k, ?_⟩
  unfold laws_FnVersions.f laws_big.f
  rw [Option.bind_some]
  by_cases hb : (st.length : Int) > 1048576
  · rw [if_pos (decide_eq_true hb)]
  · rw [if_neg (by simp [hb])]
    have hs : st.length ≤ 1048576 := by omega
    unfold spec_DrawBestCommon.f
    obtain ⟨s, e1⟩ := draw_new (k := k) hs (by omega)
    obtain ⟨a, j, t, e2, a1, j0⟩ := draw_any (k := k) (s := s) hs (Int.le_refl 0) (by omega)
    obtain ⟨b, j2, t2, e3, b1, j1⟩ := draw_any (k := k) (s := t) hs j0 (by omega)
    simp only [e1, Option.bind_some, e2, e3]
    have F := FnVersions_j0 (st := st) (a := a) (b := b) (k := k - 1) hs a1 b1 (by omega)
    rw [show k - 1 + 1 = k by omega] at F
    rw [impl_BestCommon_eq (by omega) (by omega) (by omega), Option.bind_some, impl_AreVersions_eq (by omega) (by omega), Option.bind_some, spec_AreVersions_eq (by omega) (by omega), Option.bind_some, if_neg (by simp), impl_BestCommon_eq (by omega) (by omega) (by omega), Option.bind_some, best_comm b a, if_pos rfl]
    have T : ∀ X : Bool, X = areVers a → (if X = true then (impl_BestCommon.f k a a).bind fun t320 => (if 0 ≤ (wrap64 ((a.length : Int) - 1)) then (if (wrap64 ((a.length : Int) - 1)) < (a.length : Int) then (laws_FnVersions.j0 k st a b (bestCommon a b) (t320 != (rd a (wrap64 ((a.length : Int) - 1))))) else (none)) else (none)) else (laws_FnVersions.j0 k st a b (bestCommon a b) false)) = some true := by
      intro X hX
      cases hA : areVers a with
      | false => rw [hX, hA, if_neg (by simp)]; exact F
      | true =>
        have hpos : 0 < a.length := List.length_pos_iff.2 ((areVers_iff a).1 hA).2.2
        rw [hX, hA, if_pos rfl, impl_BestCommon_eq (by omega) (by omega) (by omega), Option.bind_some, wrap_id (by omega) (by omega), if_pos (by omega), if_pos (by omega), show (a.length : Int) - 1 = ((a.length - 1 : Nat) : Int) by omega, rd_cast, best_self hA, bne_self_eq_false]
        exact F
    by_cases q : bestCommon a b > 0
    · obtain ⟨q1, q2, q3, _⟩ := best_pos q
      have m1 : a.any (· == bestCommon a b) = true := List.any_eq_true.2 ⟨_, (List.mem_filter.1 q3).1, by simp⟩
      have m2 : b.any (· == bestCommon a b) = true := (List.mem_filter.1 q3).2
      rw [if_pos q, laws_contains_eq (by omega) (by omega), m1, Option.bind_some, if_pos rfl, laws_contains_eq (by omega) (by omega), m2, Option.bind_some, if_pos rfl, Option.bind_some]
      exact T _ rfl
    · rw [if_neg q, Option.bind_some]
      exact T _ rfl

end Go.Proofs.Ytdajgpnkbinbiaa.Pure
