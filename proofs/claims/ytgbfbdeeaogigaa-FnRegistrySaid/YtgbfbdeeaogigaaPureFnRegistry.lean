/- The law FnRegistry answers true on every list of bytes, as a statement over lists alone; the bounds are those of memory. -/
import Derived.Test.YtgbfbdeeaogigaaPFnRegistryx8
import Derived.Test.YtgbfbdeeaogigaaGb
import Derived.Test.YtgbfbdeeaogigaaGr
namespace Go.Proofs.Ytgbfbdeeaogigaa.Pure
open Go.RowKit Go.Proofs.Ytgbfbdeeaogigaa.PFnRegistry Go.Proofs.YtgbfbdeeaogigaaW.PrintWords Go.Proofs.YtgbfbdeeaogigaaW.PrintLast Go.Proofs.Ytgbfbdeeaogigaa.Gb Go.Proofs.Ytgbfbdeeaogigaa.Gr Go.Proofs.Ytgbfbdeeaogigaa
set_option linter.unusedSimpArgs false
set_option linter.unusedVariables false
namespace FnRegistryAid

/-! ### T_Entry -/
abbrev En := S43
abbrev zEn : En := z43
theorem rd_En (l : List En) (i : Nat) : rd_T43 l (i : Int) = nt zEn l i := by simp [rd_T43, nt]

/-! ### spec_l1In -/
theorem spec_l1In_eq (a b c : Int) : spec_l1In.f a b c = some (decide (b ≤ a ∧ a ≤ c)) := by
  unfold spec_l1In.f
  by_cases h : a ≥ b
  · rw [if_pos h]; simp [show b ≤ a from h]
  · rw [if_neg h, decide_eq_false (by omega)]

/-! ### spec_IsReserved -/
theorem spec_IsReserved_eq (a : Int) : spec_IsReserved.f a = some (isReserved a) := by
  unfold spec_IsReserved.f isReserved
  rw [spec_l1In_eq, Option.bind_some]
  by_cases h : (0 : Int) ≤ a ∧ a ≤ 255 <;> simp [h]

/-! ### spec_IsRegistry -/
def regOk (l : List En) (i : Nat) : Bool := decide (0 ≤ (nt zEn l i).f0 ∧ (nt zEn l i).f0 ≤ 255) && !isReserved (nt zEn l i).f0 && decide (0 ≤ (nt zEn l i).f1 ∧ (nt zEn l i).f1 ≤ 9) && (i == 0 || decide ((nt zEn l (i - 1)).f0 < (nt zEn l i).f0))
def isRegistry (l : List En) : Bool := allFrom (regOk l) 0 l.length && decide (l.length ≤ 12)
theorem spec_IsRegistry_eq {l : List En} {k : Nat} (hl : l.length ≤ 9223372036854775807) (hk : l.length < k) : spec_IsRegistry.f k l = some (isRegistry l) := by
  unfold spec_IsRegistry.f
  have h := all_loop (g := fun k i => spec_IsRegistry.l0 k l (i : Int)) (n := l.length) (B := 0) (ok := regOk l) (fin := decide (l.length ≤ 12)) (fun k => by
      simp only [spec_IsRegistry.l0]; rw [if_neg (by omega)]; congr 1; rw [decide_eq_decide]; omega)
    (fun k i hi _ => by
      simp only [spec_IsRegistry.l0]
      rw [if_pos (by omega), if_pos (by omega), rd_En, spec_l1In_eq, spec_l1In_eq, spec_IsReserved_eq, wrap_up (n := l.length) hi hl]
      simp only [Option.bind_some]
      unfold regOk
      by_cases h1 : 0 ≤ (nt zEn l i).f0 ∧ (nt zEn l i).f0 ≤ 255
      · rw [decide_eq_true h1, if_pos rfl]
        cases isReserved (nt zEn l i).f0 with
        | true => simp
        | false =>
          rw [if_neg (by simp)]
          by_cases h2 : 0 ≤ (nt zEn l i).f1 ∧ (nt zEn l i).f1 ≤ 9
          · rw [decide_eq_true h2, if_pos rfl]
            by_cases h0 : 0 < i
            · rw [if_pos (by omega), wrap_dn h0 (by omega), if_pos (by omega), if_pos (by omega), rd_En]
              by_cases h3 : (nt zEn l (i - 1)).f0 < (nt zEn l i).f0
              · rw [if_neg (by omega), if_pos (by simp [h3])]
              · rw [if_pos (by omega), if_neg (by simp [h3]; omega)]
            · rw [if_neg (by omega), if_pos (by simp; omega)]
          · rw [decide_eq_false h2, if_neg (by simp), if_neg (by simp)]
      · rw [decide_eq_false h1, if_neg (by simp), if_neg (by simp)]) l.length k 0 (by omega) (by omega)
  exact h

/-! ### T_reg -/
theorem reg_at {l : List En} (h : isRegistry l = true) (i : Nat) (hi : i < l.length) : 0 ≤ (nt zEn l i).f0 ∧ (nt zEn l i).f0 ≤ 255 ∧ isReserved (nt zEn l i).f0 = false ∧ 0 ≤ (nt zEn l i).f1 ∧ (nt zEn l i).f1 ≤ 9 ∧ (i = 0 ∨ (nt zEn l (i - 1)).f0 < (nt zEn l i).f0) := by
  unfold isRegistry at h
  rw [Bool.and_eq_true, allFrom_iff] at h
  have := h.1 i (by omega) (by omega)
  unfold regOk at this
  simp at this
  obtain ⟨⟨⟨h1, h2⟩, h3⟩, h4⟩ := this
  exact ⟨h1.1, h1.2, h2, h3.1, h3.2, h4⟩
theorem reg_len {l : List En} (h : isRegistry l = true) : l.length ≤ 12 := by
  unfold isRegistry at h
  rw [Bool.and_eq_true, decide_eq_true_eq] at h
  exact h.2
theorem reg_asc {l : List En} (h : isRegistry l = true) : ∀ (d i : Nat), i + d + 1 < l.length → (nt zEn l i).f0 < (nt zEn l (i + d + 1)).f0 := by
  intro d
  induction d with
  | zero =>
    intro i hi
    rcases (reg_at h (i + 1) hi).2.2.2.2.2 with h0 | h0
    · omega
    · exact h0
  | succ d ih =>
    intro i hi
    have h1 := ih i (by omega)
    rcases (reg_at h (i + (d + 1) + 1) hi).2.2.2.2.2 with h0 | h0
    · omega
    · rw [show i + (d + 1) + 1 - 1 = i + d + 1 by omega] at h0
      omega
theorem reg_lt {l : List En} (h : isRegistry l = true) {i j : Nat} (hij : i < j) (hj : j < l.length) : (nt zEn l i).f0 < (nt zEn l j).f0 := by
  obtain ⟨d, rfl⟩ : ∃ d, j = i + d + 1 := ⟨j - i - 1, by omega⟩
  exact reg_asc h d i hj

/-! ### T_ownerOf -/
def ownerOf (l : List En) (t : Int) : Int := (l.findIdx? fun x => x.f0 == t).elim (-1) fun j => (nt zEn l j).f1

/-! ### T_assign -/
/-- A new tag cannot be t. -/
def badTag (l : List En) (t : Int) : Bool := isReserved t || l.any fun x => x.f0 == t
def freeTag (l : List En) : Nat → Nat → Nat
  | 0, t => t
  | n + 1, t => if badTag l (t : Int) = true then freeTag l n (t + 1) else t
theorem free_succ (l : List En) (n t : Nat) : freeTag l (n + 1) t = if badTag l (t : Int) = true then freeTag l n (t + 1) else t := rfl
def insEn (e : En) : List En → List En
  | [] => [e]
  | x :: r => if x.f0 < e.f0 then x :: insEn e r else e :: x :: r
theorem ins_cons (e x : En) (r : List En) : insEn e (x :: r) = if x.f0 < e.f0 then x :: insEn e r else e :: x :: r := rfl
def newEn (l : List En) (v : Int) : En := ⟨(freeTag l 13 0 : Nat), v, false⟩
def assignTag (l : List En) (v : Int) : List En × Int × Bool :=
  if isRegistry l = true ∧ (0 ≤ v ∧ v ≤ 9) ∧ l.length < 12 then (insEn (newEn l v) l, ((freeTag l 13 0 : Nat) : Int), true) else (l, -1, false)
theorem count_step (l : List En) (t : Int) : l.countP (fun x => decide (x.f0 < t)) + l.countP (fun x => x.f0 == t) = l.countP (fun x => decide (x.f0 < t + 1)) := by
  induction l with
  | nil => rfl
  | cons x r ih =>
    simp only [List.countP_cons, decide_eq_true_eq, beq_iff_eq]
    rcases Int.lt_trichotomy x.f0 t with h | h | h
    · rw [if_pos h, if_neg (by omega), if_pos (by omega)]; omega
    · rw [if_neg (by omega), if_pos h, if_pos (by omega)]; omega
    · rw [if_neg (by omega), if_neg (by omega), if_neg (by omega)]; omega
theorem resv_low (t : Nat) (h : t < 13) : isReserved (t : Int) = decide (t = 10) := by
  obtain rfl | rfl | rfl | rfl | rfl | rfl | rfl | rfl | rfl | rfl | rfl | rfl | rfl : t = 0 ∨ t = 1 ∨ t = 2 ∨ t = 3 ∨ t = 4 ∨ t = 5 ∨ t = 6 ∨ t = 7 ∨ t = 8 ∨ t = 9 ∨ t = 10 ∨ t = 11 ∨ t = 12 := by omega
  all_goals decide
theorem count_low (l : List En) : ∀ t : Nat, t ≤ 13 → (∀ s : Nat, s < t → badTag l (s : Int) = true) → t ≤ l.countP (fun x => decide (x.f0 < (t : Int))) + (if 10 < t then 1 else 0) := by
  intro t
  induction t with
  | zero => intros; omega
  | succ t ih =>
    intro h hb
    have h1 := ih (by omega) (fun s hs => hb s (by omega))
    have h2 := hb t (by omega)
    unfold badTag at h2
    rw [resv_low t (by omega)] at h2
    have h3 := count_step l (t : Int)
    rw [show ((t + 1 : Nat) : Int) = (t : Int) + 1 by omega, ← h3]
    by_cases e : t = 10
    · rw [if_pos (by omega)]; rw [if_neg (by omega)] at h1; omega
    · rw [decide_eq_false e, Bool.false_or] at h2
      have h4 : 0 < l.countP (fun x => x.f0 == (t : Int)) := by rw [List.countP_pos_iff]; exact List.any_eq_true.1 h2
      by_cases e2 : 10 < t
      · rw [if_pos e2] at h1; rw [if_pos (by omega)]; omega
      · rw [if_neg e2] at h1; rw [if_neg (by omega)]; omega
theorem free_exists {l : List En} (h : l.length < 12) : ∃ s : Nat, 0 ≤ s ∧ s < 0 + 13 ∧ badTag l (s : Int) = false := by
  refine Classical.byContradiction fun hn => ?_
  have := count_low l 13 (by omega) (fun s hs => by
    cases q : badTag l (s : Int) with
    | true => rfl
    | false => exact absurd ⟨s, by omega, by omega, q⟩ hn)
  have h2 : l.countP (fun x => decide (x.f0 < ((13 : Nat) : Int))) ≤ l.length := List.countP_le_length
  rw [if_pos (by omega)] at this
  omega
theorem free_spec (l : List En) : ∀ (n t : Nat), (∃ s : Nat, t ≤ s ∧ s < t + n ∧ badTag l (s : Int) = false) → badTag l (freeTag l n t : Nat) = false ∧ freeTag l n t < t + n := by
  intro n
  induction n with
  | zero => rintro t ⟨s, h1, h2, _⟩; omega
  | succ n ih =>
    rintro t ⟨s, h1, h2, h3⟩
    unfold freeTag
    by_cases q : badTag l (t : Int) = true
    · rw [if_pos q]
      have hne : s ≠ t := fun e => by rw [e, q] at h3; simp at h3
      have := ih (t + 1) ⟨s, by omega, by omega, h3⟩
      exact ⟨this.1, by omega⟩
    · rw [if_neg q]; exact ⟨by simpa using q, by omega⟩
theorem free_ok {l : List En} (h : l.length < 12) : isReserved (freeTag l 13 0 : Nat) = false ∧ (∀ x ∈ l, x.f0 ≠ (freeTag l 13 0 : Nat)) ∧ freeTag l 13 0 < 13 := by
  obtain ⟨h1, h2⟩ := free_spec l 13 0 (free_exists h)
  unfold badTag at h1
  rw [Bool.or_eq_false_iff] at h1
  refine ⟨h1.1, fun x hx e => ?_, by omega⟩
  have := List.any_eq_false.1 h1.2 x hx
  simp [e] at this
theorem ins_perm (e : En) : ∀ l : List En, (insEn e l).Perm (l ++ [e]) := by
  intro l
  induction l with
  | nil => exact List.Perm.refl _
  | cons x r ih =>
    unfold insEn
    split
    · exact List.Perm.cons x ih
    · exact (List.perm_append_singleton e (x :: r)).symm
theorem ins_length (e : En) (l : List En) : (insEn e l).length = l.length + 1 := by rw [(ins_perm e l).length_eq]; simp
theorem ins_sorted (e : En) : ∀ l : List En, l.Pairwise (fun x y => x.f0 < y.f0) → (insEn e l).Pairwise (fun x y => x.f0 ≤ y.f0) := by
  intro l
  induction l with
  | nil => intro _; exact List.pairwise_singleton _ _
  | cons x r ih =>
    intro h
    obtain ⟨h1, h2⟩ := List.pairwise_cons.1 h
    unfold insEn
    split
    · rename_i q
      refine List.pairwise_cons.2 ⟨fun y hy => ?_, ih h2⟩
      rcases List.mem_append.1 ((ins_perm e r).mem_iff.1 hy) with hy | hy
      · have := h1 y hy; omega
      · rw [List.mem_singleton.1 hy]; omega
    · rename_i q
      refine List.pairwise_cons.2 ⟨fun y hy => ?_, List.pairwise_cons.2 ⟨fun y hy => ?_, h2.imp (fun h => by omega)⟩⟩
      · rcases List.mem_cons.1 hy with rfl | hy
        · omega
        · have := h1 y hy; omega
      · have := h1 y hy; omega
theorem reg_pair {l : List En} (h : isRegistry l = true) : l.Pairwise (fun x y => x.f0 < y.f0) := by
  rw [List.pairwise_iff_getElem]
  intro i j hi hj hij
  have := reg_lt h hij hj
  rwa [nt_lt l zEn i hi, nt_lt l zEn j hj] at this
theorem reg_mem {l : List En} (h : isRegistry l = true) (x : En) (hx : x ∈ l) : 0 ≤ x.f0 ∧ x.f0 ≤ 255 ∧ 0 ≤ x.f1 := by
  obtain ⟨i, hi, e⟩ := List.getElem_of_mem hx
  have := reg_at h i hi
  rw [nt_lt l zEn i hi, e] at this
  exact ⟨this.1, this.2.1, this.2.2.2.1⟩
theorem assign_length (l : List En) (v : Int) : (assignTag l v).1.length ≤ l.length + 1 := by
  unfold assignTag
  split
  · show (insEn _ _).length ≤ _; rw [ins_length]; exact Nat.le_refl _
  · show l.length ≤ _; omega
theorem assign_most {l : List En} (v : Int) (h : l.length ≤ 1048576) : (assignTag l v).1.length ≤ 1048576 := by
  unfold assignTag
  split
  · rename_i q; show (insEn _ _).length ≤ _; rw [ins_length]; omega
  · exact h
theorem owner_bad {l : List En} (h : isRegistry l = true) (t : Int) : decide (ownerOf l t ≥ 0) = l.any fun x => x.f0 == t := by
  unfold ownerOf
  cases e : l.findIdx? (fun x => x.f0 == t) with
  | none =>
    have := List.findIdx?_eq_none_iff.1 e
    have h2 : (l.any fun x => x.f0 == t) = false := List.any_eq_false.2 (fun x hx => by simpa using this x hx)
    rw [h2]; rfl
  | some j =>
    obtain ⟨h1, h2, _⟩ := List.findIdx?_eq_some_iff_getElem.1 e
    have h3 : (l.any fun x => x.f0 == t) = true := List.any_eq_true.2 ⟨l[j], List.getElem_mem h1, h2⟩
    have h4 := (reg_at h j h1).2.2.2.1
    rw [h3]
    exact decide_eq_true h4

/-! ### T_draw -/
theorem and_byte (x : Int) : 0 ≤ Go.bits .and .i64 x 255 ∧ Go.bits .and .i64 x 255 ≤ 255 := by
  have h : (BitVec.ofInt 64 x &&& BitVec.ofInt 64 255).toNat ≤ 255 := by
    rw [BitVec.toNat_and]
    exact Nat.le_trans Nat.and_le_right (by decide)
  have e : Go.bits .and .i64 x 255 = IntKind.i64.wrap ((BitVec.ofInt 64 x &&& BitVec.ofInt 64 255).toNat : Int) := rfl
  rw [e, IntKind.wrap_i64]; omega
theorem draw_new {l : List Int} {k : Nat} (hl : l.length ≤ 1048576) (hk : l.length < k) : ∃ s, spec_l1New.f k l = some (l, 0, s) := by
  unfold spec_l1New.f
  have h : ∀ (d k i : Nat) (s : Int), i + d = l.length → d < k → ∃ s', spec_l1New.l0 k l s (i : Int) = some (l, 0, s') := by
    intro d
    induction d with
    | zero =>
      intro k i s hi hk
      obtain ⟨k, rfl⟩ := succ_of hk
      simp only [spec_l1New.l0]
      rw [if_neg (by omega)]; exact ⟨_, rfl⟩
    | succ d ih =>
      intro k i s hi hk
      obtain ⟨k, rfl⟩ := succ_of hk
      simp only [spec_l1New.l0]
      rw [if_pos (by omega)]
      by_cases q : (i : Int) < 4000
      · rw [if_pos q, if_pos (by omega), wrap_up (n := l.length) (by omega) (by omega)]
        exact ih k (i + 1) _ (by omega) (by omega)
      · rw [if_neg q]; exact ⟨_, rfl⟩
  exact h l.length k 0 _ (by omega) hk
theorem draw_byte {l : List Int} {i s : Int} (hl : l.length ≤ 1048576) (hi : 0 ≤ i) : ∃ b j t, spec_l1Byte.f l i s = some (b, j, t) ∧ 0 ≤ b ∧ b ≤ 255 ∧ 0 ≤ j := by
  unfold spec_l1Byte.f
  by_cases q : i < (l.length : Int)
  · rw [if_pos q, if_pos hi]
    exact ⟨_, _, _, rfl, (and_byte _).1, (and_byte _).2, by rw [wrap_id (by omega) (by omega)]; omega⟩
  · rw [if_neg q]
    exact ⟨_, _, _, rfl, (and_byte _).1, (and_byte _).2, hi⟩
theorem draw_below {l : List Int} {i s n : Int} (hl : l.length ≤ 1048576) (hi : 0 ≤ i) (h0 : 0 < n) (h1 : n ≤ 256) : ∃ v j t, spec_l1Below.f l i s n = some (v, j, t) ∧ 0 ≤ v ∧ v < n ∧ 0 ≤ j := by
  unfold spec_l1Below.f
  obtain ⟨b, j, t, e, b0, b1, j0⟩ := draw_byte (s := s) hl hi
  rw [if_neg (by omega), if_pos h1, e, Option.bind_some, if_neg (by omega)]
  refine ⟨_, _, _, rfl, Int.tmod_nonneg _ b0, ?_, j0⟩
  exact Int.tmod_lt_of_pos _ h0

/-! ### T_int -/
theorem draw_int {st xs : List Int} {i s : Int} (hl : st.length ≤ 1048576) (hi : 0 ≤ i) (h0 : 0 < xs.length) (h1 : xs.length ≤ 256) : ∃ v j t, spec_l1Int.f st i s xs = some (v, j, t) ∧ v ∈ xs ∧ 0 ≤ j := by
  unfold spec_l1Int.f
  obtain ⟨v, j, t, e, v0, v1, j0⟩ := draw_below (s := s) (n := (xs.length : Int)) hl hi (by omega) (by omega)
  rw [e, Option.bind_some, if_pos v0, if_pos v1]
  obtain ⟨n, rfl⟩ : ∃ n : Nat, v = n := ⟨v.toNat, by omega⟩
  exact ⟨_, _, _, rfl, by rw [rd_cast]; exact nt_mem 0 xs n (by omega), j0⟩

/-! ### spec_OwnerOf -/
theorem spec_OwnerOf_eq {l : List En} {t : Int} {k : Nat} (hl : l.length ≤ 9223372036854775807) (hk : l.length < k) : spec_OwnerOf.f k l t = some (ownerOf l t) := by
  unfold spec_OwnerOf.f
  have h := find_loop (g := fun k i => spec_OwnerOf.l0 k l t (i : Int)) (l := l) (z := zEn) (B := 0) (p := fun x => x.f0 == t) (hit := fun j => (nt zEn l j).f1) (miss := (-1 : Int)) (fun k => by
      simp only [spec_OwnerOf.l0]; rw [if_neg (by omega)])
    (fun k i hi _ => by
      simp only [spec_OwnerOf.l0]
      rw [if_pos (by omega), if_pos (by omega), wrap_up (n := l.length) hi hl, rd_En]
      by_cases e : (nt zEn l i).f0 = t
      · rw [if_pos e, if_pos (by simp [e])]
      · rw [if_neg e, if_neg (by simp [e])]) l.length k 0 (by omega) (by omega)
  simpa [ownerOf] using h

/-! ### spec_AssignTag -/
theorem spec_AssignTag_l1 {l : List En} {v : Int} {t : Nat} (hl : l.length ≤ 1048576) : ∀ (d k i : Nat), i + d = l.length → d < k → spec_AssignTag.l1 k l v (t : Int) (i : Int) = some (l.take i ++ insEn ⟨(t : Int), v, false⟩ (l.drop i), (t : Int), true) := by
  intro d
  induction d with
  | zero =>
    intro k i h hk
    obtain ⟨k, rfl⟩ := succ_of hk
    obtain rfl : i = l.length := by omega
    have hz : (l.take l.length).length = l.length := by simp
    simp only [spec_AssignTag.l1]
    rw [if_neg (by omega), Option.bind_some, if_pos (by omega), if_pos (by omega), Option.bind_some, toNat_cast, List.nil_append, if_pos (by simp; omega), Option.bind_some, if_pos (by simp; omega), Option.bind_some, Option.bind_some, drop_end, if_pos (by simp; omega)]
    simp [insEn]
  | succ d ih =>
    intro k i h hk
    obtain ⟨k, rfl⟩ := succ_of hk
    simp only [spec_AssignTag.l1]
    rw [if_pos (by omega), if_pos (by omega), rd_En, wrap_up (n := l.length) (by omega) (by omega), ih k (i + 1) (by omega) (by omega), drop_step l zEn i (by omega)]
    rw [ins_cons]
    by_cases q : (nt zEn l i).f0 < (t : Int)
    · rw [if_pos q, if_pos q]
      have e : l.take (i + 1) = l.take i ++ [nt zEn l i] := by rw [List.take_add_one, nt_lt l zEn i (by omega), List.getElem?_eq_getElem (by omega)]; rfl
      rw [e]; simp
    · have hz : (l.take i).length ≤ l.length := by simp; omega
      have hd : (l.drop i).length ≤ l.length := by simp
      rw [if_neg q, if_neg q, Option.bind_some, if_pos (by omega), Option.bind_some, toNat_cast, List.nil_append, if_pos (by rw [List.length_nil]; omega), Option.bind_some, if_pos (by omega), Option.bind_some, Option.bind_some, if_pos (by rw [List.length_append, List.length_singleton]; omega), drop_step l zEn i (by omega)]
      simp
theorem spec_AssignTag_l0 {l : List En} {v : Int} (hr : isRegistry l = true) : ∀ (n k t : Nat), t + n ≤ 13 → 2 * l.length + 5 + n < k → (∃ s : Nat, t ≤ s ∧ s < t + n ∧ badTag l (s : Int) = false) → spec_AssignTag.l0 k l v (t : Int) = some (insEn ⟨(freeTag l n t : Nat), v, false⟩ l, ((freeTag l n t : Nat) : Int), true) := by
  have hl := reg_len hr
  intro n
  induction n with
  | zero => rintro k t _ _ ⟨s, h1, h2, _⟩; omega
  | succ n ih =>
    rintro k t ht hk ⟨s, h1, h2, h3⟩
    obtain ⟨k, rfl⟩ := succ_of hk
    simp only [spec_AssignTag.l0]
    rw [spec_IsReserved_eq, Option.bind_some, spec_OwnerOf_eq (by omega) (by omega), Option.bind_some, wrap_up (n := 16) (by omega) (by omega)]
    have hb := owner_bad hr (t : Int)
    have hu : badTag l (t : Int) = (isReserved (t : Int) || decide (ownerOf l (t : Int) ≥ 0)) := by rw [hb]; rfl
    have hn : badTag l (t : Int) = true → spec_AssignTag.l0 k l v ((t + 1 : Nat) : Int) = some (insEn ⟨(freeTag l n (t + 1) : Nat), v, false⟩ l, ((freeTag l n (t + 1) : Nat) : Int), true) := fun q => by
      have hne : s ≠ t := fun e => by rw [e, q] at h3; simp at h3
      exact ih k (t + 1) (by omega) (by omega) ⟨s, by omega, by omega, h3⟩
    unfold freeTag
    by_cases q : badTag l (t : Int) = true
    · simp only [q, if_true]
      rw [hn q]
      rw [hu] at q
      by_cases q1 : isReserved (t : Int) = true
      · rw [if_pos q1]
      · rw [if_neg q1]
        by_cases q2 : ownerOf l (t : Int) ≥ 0
        · rw [if_pos q2]
        · rw [decide_eq_false q2] at q; simp [q1] at q
    · simp only [if_neg q]
      rw [hu] at q
      have q1 : isReserved (t : Int) = false := by revert q; cases isReserved (t : Int) <;> simp
      have q2 : ¬ ownerOf l (t : Int) ≥ 0 := fun h => q (by rw [decide_eq_true h]; simp)
      rw [if_neg (by simp [q1]), if_neg q2]
      have := spec_AssignTag_l1 (l := l) (v := v) (t := t) (by omega) l.length k 0 (by omega) (by omega)
      simpa using this
theorem spec_AssignTag_eq {l : List En} {v : Int} {k : Nat} (hl : l.length ≤ 1048576) (hk : 2 * l.length + 40 < k) : spec_AssignTag.f k l v = some (assignTag l v) := by
  obtain ⟨k, rfl⟩ : ∃ m, k = m + 1 := ⟨k - 1, by omega⟩
  have hj : spec_AssignTag.j0 (k + 1) l v true = some (l, -1, false) := by
    simp only [spec_AssignTag.j0, if_true]
    rw [Option.bind_some, if_pos (by rw [List.length_nil]; omega)]; rfl
  unfold spec_AssignTag.f assignTag
  rw [spec_IsRegistry_eq (by omega) (by omega), Option.bind_some, spec_l1In_eq, Option.bind_some, hj]
  cases hr : isRegistry l with
  | false => rw [if_neg (by simp), if_neg (by simp)]
  | true =>
    rw [if_pos rfl]
    by_cases hv : 0 ≤ v ∧ v ≤ 9
    · rw [if_pos (by simpa using hv)]
      by_cases h12 : l.length < 12
      · rw [if_pos ⟨rfl, hv, h12⟩, decide_eq_false (by omega)]
        simp only [spec_AssignTag.j0]
        rw [if_neg (by simp)]
        exact spec_AssignTag_l0 hr 13 k 0 (by omega) (by omega) (free_exists h12)
      · rw [if_neg (fun h => h12 h.2.2), decide_eq_true (by omega), hj]
    · rw [if_neg (by simpa using hv), if_neg (fun h => hv h.2.1)]

/-! ### spec_l10Draw -/
theorem once10 {st : List Int} {i s n : Int} (hl : st.length ≤ 1048576) (hi : 0 ≤ i) (h0 : 0 < n) (h1 : n ≤ 256) : ∃ v j t, spec_l1Once.f st i s n = some (v, j, t) ∧ 0 ≤ j := by
  unfold spec_l1Once.f
  obtain ⟨v, j, t, e, _, _, j0⟩ := draw_below (s := s) (n := n) hl hi h0 h1
  rw [e, Option.bind_some]
  exact ⟨_, _, _, rfl, j0⟩
theorem draw_l10_cut {st : List Int} (hs : st.length ≤ 1048576) {l : List En} (hl : l.length ≤ 12) {i s : Int} (hi : 0 ≤ i) : ∃ l' j t, (if (l.length : Int) > 2 then ((spec_l1Once.f st i s 3).bind fun bt225 => (if bt225.1 = true then ((some (([] : List En) : List En)).bind fun y228 => (if 1 ≤ (l.length : Int) then ((some (l.take 1 : List En)).bind fun y231 => (if y228.length + y231.length < 5864062014805 then ((some (y228 ++ y231 : List En)).bind fun y235 => (if 2 ≤ (l.length : Int) then ((some (l.drop 2 : List En)).bind fun y238 => (if y235.length + y238.length < 5864062014805 then (some ((y235 ++ y238), bt225.2.1, bt225.2.2)) else (none))) else (none))) else (none))) else (none))) else (some (l, bt225.2.1, bt225.2.2)))) else (some (l, i, s))) = some (l', j, t) ∧ l'.length ≤ 12 ∧ 0 ≤ j := by
  by_cases q : (l.length : Int) > 2
  · obtain ⟨v, j, t, e, j0⟩ := once10 (s := s) (n := 3) hs hi (by omega) (by omega)
    rw [if_pos q, e, Option.bind_some]
    dsimp only
    cases v with
    | false => rw [if_neg (by simp)]; exact ⟨_, _, _, rfl, hl, j0⟩
    | true =>
      have h1 : (l.take 1).length ≤ 1 := by rw [List.length_take]; omega
      have h2 : (l.drop 2).length = l.length - 2 := by simp
      rw [if_pos rfl, Option.bind_some, if_pos (by omega), Option.bind_some, if_pos (by rw [List.length_nil]; omega), Option.bind_some, if_pos (by omega), Option.bind_some, List.nil_append, if_pos (by omega)]
      exact ⟨_, _, _, rfl, by rw [List.length_append]; omega, j0⟩
  · rw [if_neg q]; exact ⟨_, _, _, rfl, hl, hi⟩
theorem draw_l10_j1 {st : List Int} (hs : st.length ≤ 1048576) {l : List En} (hl : l.length ≤ 12) (b : Bool) (hb : b = true → 0 < l.length) {i s : Int} (hi : 0 ≤ i) {k : Nat} : ∃ l' j t, spec_l10Draw.j1 (k + 1) l b st i s = some (l', j, t) ∧ l'.length ≤ 12 ∧ 0 ≤ j := by
  simp only [spec_l10Draw.j1]
  cases b with
  | false => rw [if_neg (by simp)]; exact draw_l10_cut hs hl hi
  | true =>
    have h0 := hb rfl
    obtain ⟨v, j, t, e, v0, v1, j0⟩ := draw_below (s := s) (n := (l.length : Int)) hs hi (by omega) (by omega)
    rw [if_pos rfl, e, Option.bind_some]
    dsimp only
    rw [if_pos v0, if_pos v1, Option.bind_some]
    have := draw_l10_cut (l := l.set v.toNat ⟨(rd_T43 l v).f0, (rd_T43 l v).f1, true⟩) (s := t) hs (by rw [List.length_set]; exact hl) j0
    rw [List.length_set] at this
    exact this
theorem draw_l10_l0 {st : List Int} (hs : st.length ≤ 1048576) : ∀ (c k : Nat) (l : List En) (i s : Int), 0 ≤ i → l.length + c ≤ 8 → 100 + c < k → ∃ l' j t, spec_l10Draw.l0 k l (c : Int) st i s = some (l', j, t) ∧ l'.length ≤ 12 ∧ 0 ≤ j := by
  intro c
  induction c with
  | zero =>
    intro k l i s hi hl hk
    obtain ⟨k, rfl⟩ : ∃ m, k = m + 1 + 1 := ⟨k - 2, by omega⟩
    simp only [spec_l10Draw.l0]
    rw [if_neg (by omega)]
    by_cases q : (l.length : Int) > 0
    · obtain ⟨v, j, t, e, j0⟩ := once10 (s := s) (n := 2) hs hi (by omega) (by omega)
      rw [if_pos q, e, Option.bind_some]
      exact draw_l10_j1 hs (by omega) v (fun _ => by omega) j0
    · rw [if_neg q]; exact draw_l10_j1 hs (by omega) false (by simp) hi
  | succ c ih =>
    intro k l i s hi hl hk
    obtain ⟨k, rfl⟩ := succ_of hk
    simp only [spec_l10Draw.l0]
    obtain ⟨v, j, t, e, v0, v1, j0⟩ := draw_below (s := s) (n := 4) hs hi (by omega) (by omega)
    rw [if_pos (by omega), e, Option.bind_some]
    dsimp only
    rw [spec_AssignTag_eq (by omega) (by omega), Option.bind_some, wrap_id (x := ((c + 1 : Nat) : Int) - 1) (by omega) (by omega), show ((c + 1 : Nat) : Int) - 1 = (c : Int) by omega]
    have := assign_length l v
    exact ih k _ j t j0 (by omega) (by omega)
theorem draw_l10 {st : List Int} {k : Nat} {i s : Int} (hs : st.length ≤ 1048576) (hi : 0 ≤ i) (hk : 1000 < k) : ∃ l j t, spec_l10Draw.f k st i s = some (l, j, t) ∧ l.length ≤ 12 ∧ 0 ≤ j := by
  unfold spec_l10Draw.f
  obtain ⟨v, j, t, e, v0, v1, j0⟩ := draw_below (s := s) (n := 9) hs hi (by omega) (by omega)
  rw [e, Option.bind_some]
  obtain ⟨c, rfl⟩ : ∃ c : Nat, v = c := ⟨v.toNat, by omega⟩
  exact draw_l10_l0 hs c k [] j t j0 (by simp; omega) (by omega)

/-! ### spec_l10Any -/
theorem draw_l10Any_l0 {st : List Int} {i s : Int} : ∀ (d k : Nat) (l : List En), l.length + d = 12 → 100 + d < k → ∃ l', spec_l10Any.l0 k l st i s = some (l', i, s) ∧ l'.length ≤ 12 := by
  intro d
  induction d with
  | zero =>
    intro k l hl hk
    obtain ⟨k, rfl⟩ := succ_of hk
    simp only [spec_l10Any.l0]
    rw [if_neg (by omega)]
    exact ⟨_, rfl, by omega⟩
  | succ d ih =>
    intro k l hl hk
    obtain ⟨k, rfl⟩ := succ_of hk
    simp only [spec_l10Any.l0]
    have h1 := assign_length l 1
    rw [if_pos (by omega), spec_AssignTag_eq (by omega) (by omega), Option.bind_some, spec_IsRegistry_eq (by omega) (by omega), Option.bind_some]
    by_cases q : isRegistry (assignTag l 1).1 = true
    · rw [if_pos q]
      refine ih k _ ?_ (by omega)
      unfold assignTag at q ⊢
      by_cases c : isRegistry l = true ∧ ((0 : Int) ≤ 1 ∧ (1 : Int) ≤ 9) ∧ l.length < 12
      · rw [if_pos c]; show (insEn _ _).length + _ = _; rw [ins_length]; omega
      · rw [if_neg c] at q; exact absurd ⟨q, by omega, by omega⟩ c
    · rw [if_neg q]; exact ⟨_, rfl, by omega⟩
theorem draw_l10Any {st : List Int} {k : Nat} {i s : Int} (hs : st.length ≤ 1048576) (hi : 0 ≤ i) (hk : 2000 < k) : ∃ l j t, spec_l10Any.f k st i s = some (l, j, t) ∧ l.length ≤ 12 ∧ 0 ≤ j := by
  unfold spec_l10Any.f
  obtain ⟨l, j, t, e, hl, j0⟩ := draw_l10 (k := k) (s := s) hs hi (by omega)
  rw [e, Option.bind_some]
  dsimp only
  by_cases q : (l.length : Int) = 0
  · rw [if_pos q]; exact ⟨_, _, _, rfl, hl, j0⟩
  · obtain ⟨v, j1, t1, e1, v0, v1, j10⟩ := draw_below (s := t) (n := (l.length : Int)) hs j0 (by omega) (by omega)
    obtain ⟨w, j2, t2, e2, w0, w1, j20⟩ := draw_below (s := t1) (n := 9) hs j10 (by omega) (by omega)
    rw [if_neg q, e1, Option.bind_some]
    dsimp only
    rw [e2, Option.bind_some]
    dsimp only
    by_cases q0 : w = 0
    · obtain ⟨x, j3, t3, e3, _, j30⟩ := draw_int (s := t2) (xs := [(-1), 10, 26, 255, 256]) hs j20 (by simp) (by simp)
      rw [if_pos q0, e3, Option.bind_some]
      dsimp only
      rw [if_pos v0, if_pos v1]
      exact ⟨_, _, _, rfl, by rw [List.length_set]; exact hl, j30⟩
    · rw [if_neg q0]
      by_cases q1 : w = 1
      · obtain ⟨x, j3, t3, e3, _, j30⟩ := draw_int (s := t2) (xs := [(-1), 9, 10]) hs j20 (by simp) (by simp)
        rw [if_pos q1, e3, Option.bind_some]
        dsimp only
        rw [if_pos v0, if_pos v1]
        exact ⟨_, _, _, rfl, by rw [List.length_set]; exact hl, j30⟩
      · rw [if_neg q1]
        by_cases q2 : w = 2
        · obtain ⟨l', e3, hl'⟩ := draw_l10Any_l0 (st := st) (i := j2) (s := t2) (12 - l.length) k l (by omega) (by omega)
          rw [if_pos q2, e3]
          exact ⟨_, _, _, rfl, hl', j20⟩
        · rw [if_neg q2]; exact ⟨_, _, _, rfl, hl, j20⟩
theorem draw_assign {st : List Int} {k : Nat} (hs : st.length ≤ 1048576) (hk : 1048600 < k) : ∃ l v, spec_DrawAssignTag.f k st = some (l, v) ∧ l.length ≤ 12 := by
  unfold spec_DrawAssignTag.f
  obtain ⟨s, e⟩ := draw_new (k := k) hs (by omega)
  rw [e, Option.bind_some]
  dsimp only
  obtain ⟨l, j, t, e1, hl, j0⟩ := draw_l10Any (k := k) (s := s) (i := 0) hs (by omega) (by omega)
  rw [e1, Option.bind_some]
  dsimp only
  obtain ⟨v, j1, t1, e2, _, _, _⟩ := draw_below (s := t) (n := 12) hs j0 (by omega) (by omega)
  rw [e2, Option.bind_some]
  exact ⟨_, _, rfl, hl⟩
theorem draw_clash_l0 {st : List Int} (hs : st.length ≤ 1048576) {m : List En} : ∀ (c k : Nat) (ts : List Int) (i s : Int), 0 ≤ i → ts.length + c ≤ 4 → 100 + c < k → ∃ ts' v, spec_DrawClashOf.l0 k m ts (c : Int) st i s = some (m, ts', v) ∧ ts'.length ≤ 4 := by
  intro c
  induction c with
  | zero =>
    intro k ts i s hi hl hk
    obtain ⟨k, rfl⟩ := succ_of hk
    simp only [spec_DrawClashOf.l0]
    obtain ⟨v, j, t, e, _, _, j0⟩ := draw_below (s := s) (n := 4) hs hi (by omega) (by omega)
    rw [if_neg (by omega), e, Option.bind_some]
    exact ⟨_, _, rfl, by omega⟩
  | succ c ih =>
    intro k ts i s hi hl hk
    obtain ⟨k, rfl⟩ := succ_of hk
    simp only [spec_DrawClashOf.l0]
    obtain ⟨v, j, t, e, v0, v1, j0⟩ := draw_below (s := s) (n := 14) hs hi (by omega) (by omega)
    rw [if_pos (by omega), e, Option.bind_some]
    dsimp only
    rw [if_pos (by omega), wrap_id (x := ((c + 1 : Nat) : Int) - 1) (by omega) (by omega), show ((c + 1 : Nat) : Int) - 1 = (c : Int) by omega]
    exact ih k _ j t j0 (by rw [List.length_append, List.length_singleton]; omega) (by omega)
theorem draw_clash {st : List Int} {k : Nat} (hs : st.length ≤ 1048576) (hk : 1048600 < k) : ∃ m ts v, spec_DrawClashOf.f k st = some (m, ts, v) ∧ m.length ≤ 12 ∧ ts.length ≤ 4 := by
  unfold spec_DrawClashOf.f
  obtain ⟨s, e⟩ := draw_new (k := k) hs (by omega)
  rw [e, Option.bind_some]
  dsimp only
  obtain ⟨m, j, t, e1, hm, j0⟩ := draw_l10Any (k := k) (s := s) (i := 0) hs (by omega) (by omega)
  rw [e1, Option.bind_some]
  dsimp only
  obtain ⟨v, j1, t1, e2, v0, v1, j10⟩ := draw_below (s := t) (n := 5) hs j0 (by omega) (by omega)
  rw [e2, Option.bind_some]
  dsimp only
  obtain ⟨c, rfl⟩ : ∃ c : Nat, v = c := ⟨v.toNat, by omega⟩
  obtain ⟨ts, v, e3, h3⟩ := draw_clash_l0 hs (m := m) c k [] j1 t1 j10 (by simp; omega) (by omega)
  exact ⟨m, ts, v, e3, hm, h3⟩

/-! ### impl_InRange -/
theorem impl_InRange_eq (a b c : Int) : impl_InRange.f a b c = some (decide (b ≤ a ∧ a ≤ c)) := by
  unfold impl_InRange.f
  by_cases h : b ≤ a
  · rw [if_pos h]; simp [h]
  · rw [if_neg h, decide_eq_false (by omega)]

/-! ### impl_IsReserved -/
theorem impl_IsReserved_eq (a : Int) : impl_IsReserved.f a = some (isReserved a) := by
  unfold impl_IsReserved.f isReserved
  rw [impl_InRange_eq, Option.bind_some]
  by_cases h : (0 : Int) ≤ a ∧ a ≤ 255 <;> simp [h]

/-! ### impl_IsRegistry -/
theorem impl_IsRegistry_eq {l : List En} {k : Nat} (hl : l.length ≤ 9223372036854775807) (hk : l.length < k) : impl_IsRegistry.f k l = some (isRegistry l) := by
  unfold impl_IsRegistry.f
  have h := all_loop (g := fun k i => impl_IsRegistry.l0 k l l (l.length : Int) (i : Int)) (n := l.length) (B := 0) (ok := regOk l) (fin := decide (l.length ≤ 12)) (fun k => by
      simp only [impl_IsRegistry.l0]; rw [if_neg (by omega)]; congr 1; rw [decide_eq_decide]; omega)
    (fun k i hi _ => by
      simp only [impl_IsRegistry.l0]
      rw [if_pos (by omega), if_pos (by omega), if_pos (by omega), rd_En, impl_InRange_eq, impl_InRange_eq, impl_IsReserved_eq, wrap_up (n := l.length) hi hl]
      simp only [Option.bind_some]
      unfold regOk
      by_cases h1 : 0 ≤ (nt zEn l i).f0 ∧ (nt zEn l i).f0 ≤ 255
      · rw [decide_eq_true h1, if_pos rfl]
        cases isReserved (nt zEn l i).f0 with
        | true => simp
        | false =>
          rw [if_neg (by simp)]
          by_cases h0 : 0 < i
          · rw [if_pos (by omega), wrap_dn h0 (by omega), if_pos (by omega), if_pos (by omega), rd_En]
            by_cases h3 : (nt zEn l (i - 1)).f0 < (nt zEn l i).f0
            · rw [if_neg (by omega)]; simp [h3]
            · rw [if_pos (by omega), if_neg (by simp [h3]; omega)]
          · rw [if_neg (by omega)]
            have e0 : i = 0 := by omega
            simp [e0]
      · rw [decide_eq_false h1, if_neg (by simp), if_neg (by simp)]) l.length k 0 (by omega) (by omega)
  exact h

/-! ### impl_AssignTag -/
theorem impl_AssignTag_sort_eq {l : List En} {v : Int} (hr : isRegistry l = true) (h : l.length < 12) : impl_AssignTag_sort.f (l ++ [newEn l v]) = some (insEn (newEn l v) l) := by
  obtain ⟨h1, h2, h3⟩ := free_ok h
  have hd : (l ++ [newEn l v]).Pairwise (fun x y => x.f0 ≠ y.f0) := by
    rw [List.pairwise_append]
    refine ⟨(reg_pair hr).imp (fun h => by omega), List.pairwise_singleton _ _, fun a ha b hb => ?_⟩
    rw [List.mem_singleton.1 hb]
    exact h2 a ha
  have hb : ∀ x ∈ l ++ [newEn l v], 0 ≤ x.f0 ∧ x.f0 ≤ 255 := by
    intro x hx
    rcases List.mem_append.1 hx with hx | hx
    · have := reg_mem hr x hx; exact ⟨this.1, this.2.1⟩
    · rw [List.mem_singleton.1 hx]; show 0 ≤ ((freeTag l 13 0 : Nat) : Int) ∧ ((freeTag l 13 0 : Nat) : Int) ≤ 255; omega
  unfold impl_AssignTag_sort.f
  rw [if_pos ⟨by simp, by simp; omega, hb, hd⟩, Hf.sort_uniq (fun x : En => x.f0) (ins_perm (newEn l v) l) hd (ins_sorted (newEn l v) l (reg_pair hr))]
theorem impl_AssignTag_l0 {l : List En} {v : Int} (hr : isRegistry l = true) (h12 : l.length < 12) : ∀ (n k t : Nat), t + n ≤ 13 → n < k → (∃ s : Nat, t ≤ s ∧ s < t + n ∧ badTag l (s : Int) = false) → freeTag l n t = freeTag l 13 0 → impl_AssignTag.l0 k l v l (t : Int) = some (insEn (newEn l v) l, ((freeTag l 13 0 : Nat) : Int), true) := by
  intro n
  induction n with
  | zero => rintro k t _ _ ⟨s, h1, h2, _⟩; omega
  | succ n ih =>
    rintro k t ht hk ⟨s, h1, h2, h3⟩ hf
    obtain ⟨k, rfl⟩ := succ_of hk
    simp only [impl_AssignTag.l0, impl_entryOf.f]
    rw [impl_IsReserved_eq, Option.bind_some, Option.bind_some, wrap_up (n := 16) (by omega) (by omega)]
    have hb := Hw.idxOf_any (fun x : En => x.f0 == (t : Int)) l
    have hu : badTag l (t : Int) = (isReserved (t : Int) || decide (Hw.idxOf (fun x : En => x.f0 == (t : Int)) l ≥ 0)) := by rw [hb]; rfl
    rw [free_succ l n t] at hf
    by_cases q : badTag l (t : Int) = true
    · simp only [q, if_true] at hf
      have hne : s ≠ t := fun e => by rw [e, q] at h3; simp at h3
      rw [ih k (t + 1) (by omega) (by omega) ⟨s, by omega, by omega, h3⟩ hf]
      rw [hu] at q
      by_cases q1 : isReserved (t : Int) = true
      · rw [if_pos q1]
      · rw [if_neg q1]
        by_cases q2 : Hw.idxOf (fun x : En => x.f0 == (t : Int)) l ≥ 0
        · rw [if_pos q2]
        · rw [decide_eq_false q2] at q; simp [q1] at q
    · simp only [if_neg q] at hf
      rw [hu] at q
      have q1 : isReserved (t : Int) = false := by revert q; cases isReserved (t : Int) <;> simp
      have q2 : ¬ Hw.idxOf (fun x : En => x.f0 == (t : Int)) l ≥ 0 := fun h => q (by rw [decide_eq_true h]; simp)
      rw [if_neg (by simp [q1]), if_neg q2, if_pos (by omega), hf, show (⟨((freeTag l 13 0 : Nat) : Int), v, false⟩ : En) = newEn l v from rfl, impl_AssignTag_sort_eq hr h12]; rfl
theorem impl_AssignTag_eq {l : List En} {v : Int} {k : Nat} (hl : l.length ≤ 1048576) (hk : 2 * l.length + 40 < k) : impl_AssignTag.f k l v = some (assignTag l v) := by
  obtain ⟨k, rfl⟩ : ∃ m, k = m + 1 := ⟨k - 1, by omega⟩
  have hj : impl_AssignTag.j0 (k + 1) l v l true = some (l, -1, false) := by
    simp only [impl_AssignTag.j0, if_true]
  unfold impl_AssignTag.f assignTag
  rw [Option.bind_some, if_pos (by rw [List.length_nil]; omega), List.nil_append, Option.bind_some, impl_IsRegistry_eq (by omega) (by omega), Option.bind_some, impl_InRange_eq, Option.bind_some, hj]
  cases hr : isRegistry l with
  | false => rw [if_neg (by simp), if_neg (by simp)]
  | true =>
    have hl := reg_len hr
    rw [if_pos rfl]
    by_cases hv : 0 ≤ v ∧ v ≤ 9
    · rw [if_pos (by simpa using hv)]
      by_cases h12 : l.length < 12
      · rw [if_pos ⟨rfl, hv, h12⟩, beq_eq_false_iff_ne.2 (by omega)]
        simp only [impl_AssignTag.j0]
        rw [if_neg (by simp)]
        exact impl_AssignTag_l0 hr h12 13 k 0 (by omega) (by omega) (free_exists h12) rfl
      · rw [if_neg (fun h => h12 h.2.2), beq_iff_eq.2 (by omega), hj]
    · rw [if_neg (by simpa using hv), if_neg (fun h => hv h.2.1)]

/-! ### impl_OwnerOf -/
theorem impl_OwnerOf_eq (l : List En) (t : Int) : impl_OwnerOf.f l t = some (ownerOf l t) := by
  unfold impl_OwnerOf.f impl_entryOf.f ownerOf Hw.idxOf
  rw [Option.bind_some]
  obtain ⟨q, hq⟩ : ∃ q : Int, q = (l.findIdx? fun x => x.f0 == t).elim (-1) fun j => (j : Int) := ⟨_, rfl⟩
  rw [← hq]
  cases e : l.findIdx? (fun x => x.f0 == t) with
  | none => rw [e] at hq; rw [hq]; simp
  | some j =>
    obtain ⟨h1, _, _⟩ := List.findIdx?_eq_some_iff_getElem.1 e
    rw [e] at hq
    have hq' : q = (j : Int) := hq
    rw [hq', if_neg (by omega), if_pos (by omega), if_pos (by omega), rd_En]; rfl

/-! ### T_retire -/
def retired (x : En) : En := ⟨x.f0, x.f1, true⟩
def retireTag (l : List En) (t : Int) : List En × Bool :=
  if isRegistry l = true then (l.findIdx? fun x => x.f0 == t).elim (l, false) fun j => if (nt zEn l j).f2 = true then (l, false) else (l.set j (retired (nt zEn l j)), true)
  else (l, false)
theorem retireTag_length (l : List En) (t : Int) : (retireTag l t).1.length = l.length := by
  unfold retireTag
  split
  · cases l.findIdx? (fun x => x.f0 == t) with
    | none => rfl
    | some j => show (if _ then _ else _ : List En × Bool).1.length = _; split <;> simp
  · rfl

/-! ### impl_RetireTag -/
theorem impl_RetireTag_eq {l : List En} {t : Int} {k : Nat} (hl : l.length ≤ 1048576) (hk : l.length < k) : impl_RetireTag.f k l t = some (retireTag l t) := by
  unfold impl_RetireTag.f impl_entryOf.f Hw.idxOf
  rw [Option.bind_some, if_pos (by rw [List.length_nil]; omega), List.nil_append, Option.bind_some, Option.bind_some, impl_IsRegistry_eq (by omega) hk, Option.bind_some]
  obtain ⟨q, hq⟩ : ∃ q : Int, q = (l.findIdx? fun x => x.f0 == t).elim (-1) fun j => (j : Int) := ⟨_, rfl⟩
  rw [← hq]
  unfold retireTag
  cases isRegistry l with
  | false => simp
  | true =>
    rw [if_pos rfl, if_pos rfl]
    cases e : l.findIdx? (fun x => x.f0 == t) with
    | none => rw [e] at hq; rw [hq]; simp
    | some j =>
      obtain ⟨h1, _, _⟩ := List.findIdx?_eq_some_iff_getElem.1 e
      rw [e] at hq
      have hq' : q = (j : Int) := hq
      rw [hq', if_neg (by omega), if_pos (by omega), if_pos (by omega), rd_En, toNat_cast]
      simp only [Option.elim]
      cases hf : (nt zEn l j).f2 with
      | true => rw [if_pos rfl, if_pos rfl]
      | false => rw [if_neg (by simp), if_pos (by omega)]; rfl

/-! ### spec_LiveTags -/
def liveTags (l : List En) : List Int := (l.filter fun x => !x.f2).map fun x => x.f0
theorem spec_LiveTags_eq {l : List En} {k : Nat} (hl : l.length ≤ 1048576) (hk : l.length < k) : spec_LiveTags.f k l = some (liveTags l) := by
  unfold spec_LiveTags.f
  have h := filter_loop (g := fun k acc i => spec_LiveTags.l0 k l acc (i : Int)) (l := l) (z := zEn) (B := 0) (p := fun x => !x.f2) (f := fun x => x.f0) (fun k acc => by
      simp only [spec_LiveTags.l0]; rw [if_neg (by omega)])
    (fun k i acc hi hk hacc => by
      simp only [spec_LiveTags.l0]
      rw [if_pos (by omega), if_pos (by omega), rd_En, wrap_up (n := l.length) hi (by omega), if_pos (show acc.length < 17592186044416 by omega)]
      cases (nt zEn l i).f2 <;> rfl) l.length k 0 [] (by omega) (by omega) (by simp)
  simpa [liveTags] using h

/-! ### impl_LiveTags -/
theorem impl_LiveTags_eq {l : List En} {k : Nat} (hl : l.length ≤ 1048576) (hk : l.length < k) : impl_LiveTags.f k l = some (liveTags l) := by
  unfold impl_LiveTags.f
  have h := filter_loop (g := fun k acc i => impl_LiveTags.l0 k acc l (l.length : Int) (i : Int)) (l := l) (z := zEn) (B := 0) (p := fun x => !x.f2) (f := fun x => x.f0) (fun k acc => by
      simp only [impl_LiveTags.l0]; rw [if_neg (by omega)])
    (fun k i acc hi hk hacc => by
      simp only [impl_LiveTags.l0]
      rw [if_pos (by omega), if_pos (by omega), if_pos (by omega), rd_En, wrap_up (n := l.length) hi (by omega), if_pos (show acc.length < 17592186044416 by omega)]
      cases (nt zEn l i).f2 <;> rfl) l.length k 0 [] (by omega) (by omega) (by simp)
  simpa [liveTags] using h

/-! ### T_clash -/
def clash (l : List En) (v t : Int) : Bool := (decide (ownerOf l t ≥ 0) && !decide (ownerOf l t = v)) || isReserved t

/-! ### impl_ClashOf -/
theorem impl_ClashOf_eq {l : List En} {ts : List Int} {v : Int} {k : Nat} (hl : l.length ≤ 1048576) (ht : ts.length ≤ 1048576) (hk : l.length + ts.length + 2 < k) : impl_ClashOf.f k l ts v = some (ts.filter (clash l v)) := by
  unfold impl_ClashOf.f
  have h := filter_loop (g := fun k acc i => impl_ClashOf.l0 k l v acc ts (ts.length : Int) (i : Int)) (l := ts) (z := 0) (B := l.length + 1) (p := clash l v) (f := id) (fun k acc => by
      simp only [impl_ClashOf.l0]; rw [if_neg (by omega)])
    (fun k i acc hi hk hacc => by
      simp only [impl_ClashOf.l0]
      rw [if_pos (by omega), if_pos (by omega), if_pos (by omega), rd_cast, wrap_up (n := ts.length) hi (by omega), if_pos (show acc.length < 17592186044416 by omega), impl_OwnerOf_eq, impl_IsReserved_eq]
      simp only [Option.bind_some, clash]
      by_cases h1 : ownerOf l (nt 0 ts i) ≥ 0 <;> by_cases h2 : ownerOf l (nt 0 ts i) = v <;> rcases Bool.eq_false_or_eq_true (isReserved (nt 0 ts i)) with h3 | h3 <;> simp [h1, h2, h3]) ts.length k 0 [] (by omega) (by omega) (by simp)
  simpa using h

/-! ### laws_contains -/
theorem laws_contains_eq {l : List Int} {v : Int} {k : Nat} (hl : l.length ≤ 1048576) (hk : l.length < k) : laws_contains.f k l v = some (l.any (· == v)) := by
  unfold laws_contains.f
  exact any_loop (g := fun k i => laws_contains.l0 k l v (i : Int)) (l := l) (z := 0) (B := 0) (p := fun x => x == v) (fun k => by
      simp only [laws_contains.l0]; rw [if_neg (by omega)])
    (fun k i hi _ => by
      simp only [laws_contains.l0]
      rw [if_pos (by omega), if_pos (by omega), rd_cast, wrap_up (n := l.length) hi (by omega)]
      by_cases q : nt 0 l i = v
      · rw [if_pos q, if_pos (by simp [q])]
      · rw [if_neg q, if_neg (by simp [q])]) l.length k 0 (by omega) (by omega)

end FnRegistryAid
open FnRegistryAid

theorem ins_strict (e : En) : ∀ l : List En, l.Pairwise (fun x y => x.f0 < y.f0) → (∀ x ∈ l, x.f0 ≠ e.f0) → (insEn e l).Pairwise (fun x y => x.f0 < y.f0) := by
  intro l
  induction l with
  | nil => intro _ _; exact List.pairwise_singleton _ _
  | cons x r ih =>
    intro h hn
    obtain ⟨h1, h2⟩ := List.pairwise_cons.1 h
    have hx := hn x List.mem_cons_self
    rw [ins_cons]
    split
    · rename_i q
      refine List.pairwise_cons.2 ⟨fun y hy => ?_, ih h2 (fun y hy => hn y (List.mem_cons_of_mem _ hy))⟩
      rcases List.mem_append.1 ((ins_perm e r).mem_iff.1 hy) with hy | hy
      · exact h1 y hy
      · rw [List.mem_singleton.1 hy]; exact q
    · rename_i q
      refine List.pairwise_cons.2 ⟨fun y hy => ?_, h⟩
      rcases List.mem_cons.1 hy with rfl | hy
      · omega
      · have := h1 y hy; omega
theorem reg_of {l : List En} (hp : l.Pairwise (fun x y => x.f0 < y.f0)) (hl : l.length ≤ 12) (h : ∀ x ∈ l, 0 ≤ x.f0 ∧ x.f0 ≤ 255 ∧ isReserved x.f0 = false ∧ 0 ≤ x.f1 ∧ x.f1 ≤ 9) : isRegistry l = true := by
  unfold isRegistry
  rw [Bool.and_eq_true, allFrom_iff, decide_eq_true_eq]
  refine ⟨fun i hi1 hi => ?_, hl⟩
  have hi : i < l.length := by omega
  have h1 := h (nt zEn l i) (nt_mem zEn l i hi)
  unfold regOk
  by_cases q : i = 0
  · subst q; simp [h1]
  · have h2 := List.pairwise_iff_getElem.1 hp (i - 1) i (by omega) hi (by omega)
    rw [← nt_lt l zEn (i - 1) (by omega), ← nt_lt l zEn i hi] at h2
    simp [h1, h2]
theorem owner_none {l : List En} {t : Int} (h : ∀ x ∈ l, x.f0 ≠ t) : ownerOf l t = -1 := by
  unfold ownerOf
  rw [List.findIdx?_eq_none_iff.2 (fun x hx => by simp [h x hx])]; rfl
theorem asc_inj {l : List En} (hp : l.Pairwise (fun x y => x.f0 < y.f0)) {i j : Nat} (hi : i < l.length) (hj : j < l.length) (h : l[i].f0 = l[j].f0) : i = j := by
  rcases Nat.lt_trichotomy i j with q | q | q
  · have := List.pairwise_iff_getElem.1 hp i j hi hj q; omega
  · exact q
  · have := List.pairwise_iff_getElem.1 hp j i hj hi q; omega
theorem find_mem {l : List En} (hp : l.Pairwise (fun x y => x.f0 < y.f0)) {x : En} (hx : x ∈ l) : ∃ j, ∃ hj : j < l.length, l.findIdx? (fun y => y.f0 == x.f0) = some j ∧ l[j] = x := by
  cases e : l.findIdx? (fun y => y.f0 == x.f0) with
  | none => have := List.findIdx?_eq_none_iff.1 e x hx; simp at this
  | some j =>
    obtain ⟨h1, h2, _⟩ := List.findIdx?_eq_some_iff_getElem.1 e
    obtain ⟨i, hi, ei⟩ := List.getElem_of_mem hx
    have h3 : l[j].f0 = l[i].f0 := by rw [ei]; simpa using h2
    have := asc_inj hp h1 hi h3
    subst this
    exact ⟨j, h1, rfl, ei⟩
theorem owner_mem {l : List En} (hp : l.Pairwise (fun x y => x.f0 < y.f0)) {x : En} (hx : x ∈ l) : ownerOf l x.f0 = x.f1 := by
  obtain ⟨j, hj, e, ej⟩ := find_mem hp hx
  unfold ownerOf
  rw [e]
  show (nt zEn l j).f1 = _
  rw [nt_lt _ _ _ hj, ej]
theorem FnRegistry_l1 {l m : List En} {ts c : List Int} {v : Int} (hl : l.length ≤ 12) (hm : m.length ≤ 12) (ht : ts.length ≤ 4) (hc : c = ts.filter (clash m v)) : ∀ (d k i : Nat), i + d = c.length → 100 + d < k → laws_FnRegistry.l1 k l m ts v c (i : Int) = some true := by
  have hcl : c.length ≤ 4 := by rw [hc]; exact Nat.le_trans (List.length_filter_le _ _) ht
  intro d
  induction d with
  | zero =>
    intro k i hi hk
    obtain ⟨k, rfl⟩ := succ_of hk
    simp only [laws_FnRegistry.l1]
    have h1 : (liveTags l).length ≤ l.length := by unfold liveTags; rw [List.length_map]; exact List.length_filter_le _ _
    rw [if_neg (by omega), impl_LiveTags_eq (by omega) (by omega), Option.bind_some, if_pos (by omega), spec_LiveTags_eq (by omega) (by omega), Option.bind_some]
    simp
  | succ d ih =>
    intro k i hi hk
    obtain ⟨k, rfl⟩ := succ_of hk
    have hx : nt 0 c i ∈ c := nt_mem 0 c i (by omega)
    have hx2 : nt 0 c i ∈ ts ∧ clash m v (nt 0 c i) = true := by
      have := hx; rw [hc] at this
      rw [hc]; exact List.mem_filter.1 this
    simp only [laws_FnRegistry.l1]
    rw [if_pos (by omega), if_pos (by omega), rd_cast, laws_contains_eq (by omega) (by omega), Option.bind_some, if_pos (List.any_eq_true.2 ⟨_, hx2.1, by simp⟩), impl_IsReserved_eq, Option.bind_some, impl_OwnerOf_eq, Option.bind_some, wrap_up (n := c.length) (by omega) (by omega), ih k (i + 1) (by omega) (by omega)]
    have h2 := hx2.2
    unfold clash at h2
    by_cases q : isReserved (nt 0 c i) = true
    · rw [if_pos q]
    · rw [if_neg q, if_neg (fun e => by simp [q, e] at h2)]
theorem FnRegistry_j3 {st : List Int} (hs : st.length ≤ 1048576) {l : List En} (hl : l.length ≤ 12) {k : Nat} (hk : 1048700 < k) : laws_FnRegistry.j3 k st l = some true := by
  obtain ⟨k, rfl⟩ := succ_of hk
  simp only [laws_FnRegistry.j3]
  obtain ⟨m, ts, v, e, hm, ht⟩ := draw_clash (k := k) hs (by omega)
  rw [e, Option.bind_some]
  dsimp only
  rw [impl_ClashOf_eq (by omega) (by omega) (by omega), Option.bind_some]
  have := List.length_filter_le (clash m v) ts
  exact FnRegistry_l1 hl hm ht rfl (ts.filter (clash m v)).length k 0 (by omega) (by omega)
theorem FnRegistry_l0 {st : List Int} (hs : st.length ≤ 1048576) {l x : List En} (hl : l.length ≤ 12) (hx : ∀ y ∈ l, ownerOf x y.f0 = y.f1) : ∀ (d k i : Nat), i + d = l.length → 1048710 + d < k → laws_FnRegistry.l0 k st l x (i : Int) = some true := by
  intro d
  induction d with
  | zero =>
    intro k i hi hk
    obtain ⟨k, rfl⟩ := succ_of hk
    simp only [laws_FnRegistry.l0]
    rw [if_neg (by omega)]
    exact FnRegistry_j3 hs hl (by omega)
  | succ d ih =>
    intro k i hi hk
    obtain ⟨k, rfl⟩ := succ_of hk
    simp only [laws_FnRegistry.l0]
    rw [if_pos (by omega), if_pos (by omega), rd_En, impl_OwnerOf_eq, Option.bind_some, if_pos (hx _ (nt_mem zEn l i (by omega))), wrap_up (n := l.length) (by omega) (by omega)]
    exact ih k (i + 1) (by omega) (by omega)
theorem FnRegistry : laws_FnRegistry.Pure := by
  intro st _ _ _
  by_cases hs : (st.length : Int) > 1048576
  · refine ⟨0, ?_⟩
    unfold laws_FnRegistry.f laws_big.f
    rw [Option.bind_some, if_pos (by simpa using hs)]
  · obtain ⟨k, hk⟩ : ∃ k, k = 1050000 := ⟨_, rfl⟩
    refine ⟨k + 2, ?_⟩
    unfold laws_FnRegistry.f laws_big.f
    rw [Option.bind_some, if_neg (by simpa using hs)]
    have hs' : st.length ≤ 1048576 := by omega
    obtain ⟨l, v, e, hl⟩ := draw_assign (k := k + 2) hs' (by omega)
    rw [e, Option.bind_some]
    dsimp only
    rw [impl_AssignTag_eq (by omega) (by omega), Option.bind_some]
    by_cases c : isRegistry l = true ∧ (0 ≤ v ∧ v ≤ 9) ∧ l.length < 12
    · obtain ⟨hr, hv, h12⟩ := c
      obtain ⟨t, ht⟩ : ∃ t : Int, t = ((freeTag l 13 0 : Nat) : Int) := ⟨_, rfl⟩
      obtain ⟨n1, n2, n3⟩ := free_ok h12
      rw [← ht] at n1 n2
      have hnew : newEn l v = ⟨t, v, false⟩ := by rw [ht]; rfl
      have ha : assignTag l v = (insEn ⟨t, v, false⟩ l, t, true) := by unfold assignTag; rw [if_pos ⟨hr, hv, h12⟩, hnew, ht]
      obtain ⟨x, hx⟩ : ∃ x, x = insEn ⟨t, v, false⟩ l := ⟨_, rfl⟩
      have xl : x.length = l.length + 1 := by rw [hx, ins_length]
      have xp : x.Perm (l ++ [⟨t, v, false⟩]) := by rw [hx]; exact ins_perm _ _
      have xs : x.Pairwise (fun x y => x.f0 < y.f0) := by rw [hx]; exact ins_strict _ l (reg_pair hr) n2
      have xe : (⟨t, v, false⟩ : En) ∈ x := xp.mem_iff.2 (List.mem_append.2 (.inr List.mem_cons_self))
      have xo : ∀ y ∈ l, y ∈ x := fun y hy => xp.mem_iff.2 (List.mem_append.2 (.inl hy))
      have xr : isRegistry x = true := reg_of xs (by omega) (fun y hy => by
        rcases List.mem_append.1 (xp.mem_iff.1 hy) with hy | hy
        · obtain ⟨i, hi, ei⟩ := List.getElem_of_mem hy
          have := reg_at hr i hi
          rw [nt_lt l zEn i hi, ei] at this
          exact ⟨this.1, this.2.1, this.2.2.1, this.2.2.2.1, this.2.2.2.2.1⟩
        · rw [List.mem_singleton.1 hy]; exact ⟨by show 0 ≤ t; omega, by show t ≤ 255; omega, n1, hv.1, hv.2⟩)
      rw [ha]
      dsimp only
      rw [← hx, if_pos rfl, impl_IsRegistry_eq (by omega) (by omega), Option.bind_some, if_pos xr, impl_OwnerOf_eq, Option.bind_some, if_pos (owner_none n2), impl_OwnerOf_eq, Option.bind_some, if_pos (owner_mem xs xe), impl_IsReserved_eq, Option.bind_some, if_neg (by rw [n1]; simp), wrap_id (x := (l.length : Int) + 1) (by omega) (by omega), show ((x.length : Int) != (l.length : Int) + 1) = false from by rw [bne_eq_false_iff_eq]; omega]
      simp only [laws_FnRegistry.j0]
      obtain ⟨j, hj, ej, xj⟩ := find_mem xs xe
      have hg : retireTag x t = (x.set j (retired ⟨t, v, false⟩), true) := by
        unfold retireTag
        rw [if_pos xr, ej]
        show (if (nt zEn x j).f2 = true then _ else _) = _
        rw [nt_lt _ _ _ hj, xj, if_neg (by simp)]
      obtain ⟨y, hy⟩ : ∃ y, y = x.set j (retired ⟨t, v, false⟩) := ⟨_, rfl⟩
      have yl : y.length = x.length := by rw [hy, List.length_set]
      have ye : retired ⟨t, v, false⟩ ∈ y := by rw [hy]; exact List.mem_set hj _
      have hlive : (liveTags y).any (· == t) = false := by
        rw [List.any_eq_false]
        intro z hz
        unfold liveTags at hz
        obtain ⟨w, hw, ew⟩ := List.mem_map.1 hz
        obtain ⟨w1, w2⟩ := List.mem_filter.1 hw
        obtain ⟨i, hi, ei⟩ := List.getElem_of_mem w1
        intro q
        have q' : z = t := by simpa using q
        by_cases c2 : i = j
        · subst c2
          subst hy
          rw [List.getElem_set_self] at ei
          rw [← ei] at w2; simp [retired] at w2
        · subst hy
          rw [List.getElem_set_ne (fun h => c2 h.symm)] at ei
          have hi2 : i < x.length := by omega
          refine c2 (asc_inj xs hi2 hj ?_)
          rw [ei, ew, q', xj]
      have hnx : ∀ w, (assignTag y w).2.2 = true → ((assignTag y w).2.1 == t) = false := by
        intro w hq
        unfold assignTag at hq ⊢
        by_cases c3 : isRegistry y = true ∧ (0 ≤ w ∧ w ≤ 9) ∧ y.length < 12
        · rw [if_pos c3]
          obtain ⟨_, m2, _⟩ := free_ok c3.2.2
          have := m2 _ ye
          rw [beq_eq_false_iff_ne]
          exact fun h => this (by show t = _; exact h.symm)
        · rw [if_neg c3] at hq; simp at hq
      have hj1 : laws_FnRegistry.j1 (k + 1) st l x false = some true := by
        simp only [laws_FnRegistry.j1]
        rw [if_neg (by simp)]
        exact FnRegistry_l0 hs' hl (fun z hz => owner_mem xs (xo z hz)) l.length k 0 (by omega) (by omega)
      have hlen : (liveTags y).length ≤ 1048576 := by
        unfold liveTags; rw [List.length_map]; exact Nat.le_trans (List.length_filter_le _ _) (by omega)
      have hlen2 : (liveTags y).length ≤ 20 := by
        unfold liveTags; rw [List.length_map]; exact Nat.le_trans (List.length_filter_le _ _) (by omega)
      rw [if_neg (by simp), impl_RetireTag_eq (by omega) (by omega), Option.bind_some, hg, ← hy]
      dsimp only
      rw [impl_AssignTag_eq (by omega) (by omega), Option.bind_some, if_pos rfl, impl_LiveTags_eq (by omega) (by omega), Option.bind_some, laws_contains_eq hlen (by omega), Option.bind_some, hlive, if_neg (by simp)]
      by_cases c4 : (assignTag y v).2.2 = true
      · rw [if_pos c4, hnx v c4]; exact hj1
      · rw [if_neg c4]; exact hj1
    · have ha : assignTag l v = (l, -1, false) := by unfold assignTag; rw [if_neg c]
      rw [ha]
      dsimp only
      rw [if_neg (by simp)]
      exact FnRegistry_j3 hs' hl (by omega)

end Go.Proofs.Ytgbfbdeeaogigaa.Pure
