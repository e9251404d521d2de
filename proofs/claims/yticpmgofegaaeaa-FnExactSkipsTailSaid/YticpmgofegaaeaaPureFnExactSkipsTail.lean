/- SkipsTail of the program and of the reference agree on every two lists of fields and every seed, as a statement over lists alone; the bounds are those of memory. -/
import Derived.Test.YticpmgofegaaeaaPFnExactSkipsTailx14
import Derived.Test.YticpmgofegaaeaaGb
import Derived.Test.YticpmgofegaaeaaGr
import Derived.Test.YticpmgofegaaeaaGh
namespace Go.Proofs.Yticpmgofegaaeaa.Pure
open Go.RowKit Go.Proofs.Yticpmgofegaaeaa.PFnExactSkipsTail Go.Proofs.YticpmgofegaaeaaW.PrintWords Go.Proofs.YticpmgofegaaeaaW.PrintLast Go.Proofs.Yticpmgofegaaeaa.Gb Go.Proofs.Yticpmgofegaaeaa.Gr Go.Proofs.Yticpmgofegaaeaa.Gh Go.Proofs.Yticpmgofegaaeaa
set_option linter.unusedSimpArgs false
set_option linter.unusedVariables false
namespace FnExactSkipsTailAid

/-! ### T_inB -/
def inB (x a b : Int) : Bool := decide (a ≤ x) && decide (x ≤ b)
theorem inB_dec (x a b : Int) : decide (a ≤ x ∧ x ≤ b) = inB x a b := by simp [inB]

/-! ### T_Field -/
abbrev Fd := S47
abbrev LFd := S49
abbrev zFd : Fd := z47
abbrev zLFd : LFd := z49
theorem rd_Fd (l : List Fd) (i : Nat) : rd_T47 l (i : Int) = nt zFd l i := by simp [rd_T47, nt]
theorem rd_FdI (l : List Fd) (i : Int) : rd_T47 l i = nt zFd l i.toNat := by simp [rd_T47, nt]
theorem rd_LFd (l : List LFd) (i : Nat) : rd_T49 l (i : Int) = nt zLFd l i := by simp [rd_T49, nt]
def convFd (x : LFd) : Fd := ⟨x.f0, x.f1, x.f2, x.f3⟩
/-- A field that may stand at place i. -/
def okFd (l : List Fd) (i : Nat) : Bool := inB (nt zFd l i).f0 1 3 && (inB (nt zFd l i).f1 1 (if (nt zFd l i).f0 = 1 then 99 else 5) && (if (nt zFd l i).f2 = -1 then (nt zFd l i).f3 == 0 else
  inB (nt zFd l i).f2 0 ((i : Int) - 1) && (decide ((nt zFd l (nt zFd l i).f2.toNat).f0 = 1) && (decide ((nt zFd l (nt zFd l i).f2.toNat).f2 = -1) && inB (nt zFd l i).f3 0 (nt zFd l (nt zFd l i).f2.toNat).f1))))
def isFormat (l : List Fd) : Bool := allFrom (okFd l) 0 l.length && inB l.length 1 6

/-! ### laws_szFieldS -/
theorem laws_szFieldS_eq {l : List LFd} {a : Int} (h0 : 0 ≤ a) (h1 : a ≤ 1048576) (hl : l.length ≤ 9223372036854775807) : laws_szFieldS.f l a = some (if a < l.length then -1 else a - l.length) := by
  unfold laws_szFieldS.f
  rw [wrap_id (by omega) (by omega)]
  by_cases h : a < (l.length : Int)
  · rw [if_pos (by omega), if_pos h]
  · rw [if_neg (by omega), if_neg h]

/-! ### laws_toFieldS -/
theorem laws_toFieldS_eq {l : List LFd} {k : Nat} (hl : l.length ≤ 1048576) (hk : l.length < k) : laws_toFieldS.f k l = some (l.map convFd) := by
  unfold laws_toFieldS.f
  rw [if_pos (by omega), toNat_cast, if_pos (by omega)]
  have h := map_loop (g := fun k acc i => laws_toFieldS.l0 k l acc (i : Int)) (l := l) (z := zLFd) (zb := zFd) (f := convFd) (B := 0) (fun k acc ha => by
      simp only [laws_toFieldS.l0]; rw [if_neg (by omega)])
    (fun k i acc hi _ ha => by
      simp only [laws_toFieldS.l0]
      rw [if_pos (by omega), if_pos (by omega), rd_LFd]
      simp only [laws_toField.f, Option.bind_some]
      rw [if_pos (by omega), wrap_up (n := l.length) hi (by omega), toNat_cast]; rfl) l.length k 0 (by omega) (by omega)
  simpa using h

/-! ### laws_eqFieldS -/
theorem laws_eqFieldS_self {l : List Fd} {k : Nat} (hl : l.length ≤ 9223372036854775807) (hk : l.length < k) : laws_eqFieldS.f k l l = some true := by
  unfold laws_eqFieldS.f
  rw [if_pos rfl]
  exact pass_loop (g := fun k i => laws_eqFieldS.l0 k l l (i : Int)) (n := l.length) (B := 0) (fun k => by
      simp only [laws_eqFieldS.l0]; rw [if_neg (by omega)])
    (fun k i hi _ => by
      simp only [laws_eqFieldS.l0]
      rw [if_pos (by omega), if_pos (by omega), if_pos (by omega), wrap_up (n := l.length) hi hl]
      simp only [laws_eqField.f, if_true, bne_self_eq_false, Bool.false_eq_true, if_false, Option.bind_some]) l.length k 0 (by omega) (by omega)

/-! ### T_Value -/
abbrev Va := S58
abbrev zVa : Va := z58
theorem rd_Va (l : List Va) (i : Nat) : rd_T58 l (i : Int) = nt zVa l i := by simp [rd_T58, nt]
theorem rd_VaI (l : List Va) (i : Int) : rd_T58 l i = nt zVa l i.toNat := by simp [rd_T58, nt]
def isThere (l : List Fd) (m : List Va) (i : Nat) : Bool := decide (i < l.length) && (decide ((nt zFd l i).f2 = -1) || (inB (nt zFd l i).f2 0 ((m.length : Int) - 1) && ((nt zVa m (nt zFd l i).f2.toNat).f0 == (nt zFd l i).f3)))
def numsIn (xs : List Int) (hi : Int) : Bool := xs.all fun x => decide (0 ≤ x ∧ x ≤ hi)
def fitsField (x : Fd) (v : Va) : Bool := if x.f0 = 1 then inB v.f0 0 x.f1 && ((v.f1.length : Int) == 0) else if x.f0 = 2 then decide (v.f0 = 0) && (decide ((v.f1.length : Int) ≤ x.f1) && numsIn v.f1 255) else if x.f0 = 3 then decide (v.f0 = 0) && (decide ((v.f1.length : Int) ≤ x.f1) && numsIn v.f1 99) else false
def fitAt (l : List Fd) (m : List Va) (i : Nat) : Bool := if isThere l m i = true then fitsField (nt zFd l i) (nt zVa m i) else decide ((nt zVa m i).f0 = 0) && decide ((nt zVa m i).f1.length = 0)
def fitsFormat (l : List Fd) (m : List Va) : Bool := isFormat l && (decide (l.length = m.length) && allFrom (fitAt l m) 0 l.length)
def encAt (l : List Fd) (m : List Va) (i : Nat) : List Int := if isThere l m i = true then (if (nt zFd l i).f0 = 1 then [(nt zVa m i).f0] else ((nt zVa m i).f1.length : Int) :: (nt zVa m i).f1) else []
def encFrom (l : List Fd) (m : List Va) : Nat → Nat → List Int
  | 0, _ => []
  | d + 1, i => encAt l m i ++ encFrom l m d (i + 1)
def encodeMsg (l : List Fd) (m : List Va) : List Int × Bool := if fitsFormat l m = true then (encFrom l m l.length 0, true) else ([], false)
def itemsOf (s : Int) (i c : Nat) : List Int := (List.range c).map fun (j : Nat) => pickOf s (16 * (i : Int) + (j : Int) + 1) 100
def mkVal (l : List Fd) (s : Int) (acc : List Va) (i : Nat) : Va :=
  if isThere l acc i = true then (if (nt zFd l i).f0 = 1 then ⟨pickOf s (16 * (i : Int)) ((nt zFd l i).f1 + 1), []⟩ else ⟨0, itemsOf s i (pickOf s (16 * (i : Int)) ((nt zFd l i).f1 + 1)).toNat⟩) else ⟨0, []⟩
def mkFrom (l : List Fd) (s : Int) : Nat → List Va → Nat → List Va
  | 0, acc, _ => acc
  | d + 1, acc, i => mkFrom l s d (acc ++ [mkVal l s acc i]) (i + 1)
def makeMsg (l : List Fd) (s : Int) : List Va := if isFormat l = true then mkFrom l s l.length [] 0 else []
def makeBytes (l : List Fd) (s : Int) : List Int := (encodeMsg l (makeMsg l s)).1
def readVal (x : Fd) (b : List Int) : Option (Va × Nat) :=
  if b.length = 0 then none else if x.f0 = 1 then (if fitsField x ⟨nt 0 b 0, []⟩ = true then some (⟨nt 0 b 0, []⟩, 1) else none)
  else if 0 ≤ nt 0 b 0 ∧ nt 0 b 0 ≤ (b.length : Int) - 1 then (if fitsField x ⟨0, (b.drop 1).take (nt 0 b 0).toNat⟩ = true then some (⟨0, (b.drop 1).take (nt 0 b 0).toNat⟩, 1 + (nt 0 b 0).toNat) else none) else none
def rdFrom (l : List Fd) (b : List Int) : Nat → List Va → Nat → Nat → Option (List Va × Nat)
  | 0, acc, a, _ => some (acc, a)
  | d + 1, acc, a, i => if isThere l acc i = true then (match readVal (nt zFd l i) (b.drop a) with | none => none | some (v, n) => rdFrom l b d (acc ++ [v]) (a + n) (i + 1)) else rdFrom l b d (acc ++ [⟨0, []⟩]) a (i + 1)
def readPrefix (l : List Fd) (b : List Int) : List Va × Int := if isFormat l = true then (match rdFrom l b l.length [] 0 0 with | none => ([], -1) | some (m, a) => (m, (a : Int))) else ([], -1)
def decodeMsg (l : List Fd) (b : List Int) : List Va × Bool := if (readPrefix l b).2 = (b.length : Int) then ((readPrefix l b).1, true) else ([], false)
theorem pick_bound {a b c : Int} (h0 : 1 ≤ c) (h1 : c ≤ 1000000) : 0 ≤ pickOf a b c ∧ pickOf a b c < c := by
  unfold pickOf modOf
  obtain ⟨h, hh⟩ : ∃ h, h = hashOf [a, b] := ⟨_, rfl⟩
  rw [if_neg (by omega), if_pos ⟨h0, by omega⟩, ← hh]
  have hb : -c < Int.tmod h c ∧ Int.tmod h c < c := by
    refine ⟨?_, Int.tmod_lt_of_pos _ (by omega)⟩
    by_cases q : 0 ≤ h
    · have := Int.tmod_nonneg c q; omega
    · have e := Int.neg_tmod h c
      have h2 : Int.tmod (-h) c < c := Int.tmod_lt_of_pos _ (by omega)
      omega
  rw [wrap_id (by omega) (by omega)]
  exact ⟨Int.tmod_nonneg c (by omega), Int.tmod_lt_of_pos _ (by omega)⟩
theorem format_at {l : List Fd} (h : isFormat l = true) : l.length ≤ 6 ∧ ∀ i, i < l.length → 1 ≤ (nt zFd l i).f0 ∧ (nt zFd l i).f0 ≤ 3 ∧ 1 ≤ (nt zFd l i).f1 ∧ (nt zFd l i).f1 ≤ 99 ∧ ((nt zFd l i).f0 ≠ 1 → (nt zFd l i).f1 ≤ 5) := by
  unfold isFormat at h
  rw [Bool.and_eq_true, allFrom_iff] at h
  refine ⟨by have := h.2; simp only [inB, Bool.and_eq_true, decide_eq_true_eq] at this; omega, fun i hi => ?_⟩
  have := h.1 i (by omega) (by omega)
  unfold okFd at this
  simp only [Bool.and_eq_true, inB, decide_eq_true_eq] at this
  obtain ⟨⟨h1, h2⟩, ⟨h3, h4⟩, _⟩ := this
  refine ⟨h1, h2, h3, ?_, fun hn => ?_⟩
  · by_cases q : (nt zFd l i).f0 = 1
    · rw [if_pos q] at h4; exact h4
    · rw [if_neg q] at h4; omega
  · rw [if_neg hn] at h4; exact h4
theorem items_length (s : Int) (i c : Nat) : (itemsOf s i c).length = c := by simp [itemsOf]
theorem items_succ (s : Int) (i c : Nat) : itemsOf s i (c + 1) = itemsOf s i c ++ [pickOf s (16 * (i : Int) + c + 1) 100] := by simp [itemsOf, List.range_succ]
theorem mkFrom_length (l : List Fd) (s : Int) : ∀ (d : Nat) (acc : List Va) (i : Nat), (mkFrom l s d acc i).length = acc.length + d := by
  intro d
  induction d with
  | zero => intro acc i; rfl
  | succ d ih => intro acc i; simp only [mkFrom]; rw [ih, List.length_append, List.length_singleton]; omega
theorem makeMsg_length {l : List Fd} {s : Int} (h : isFormat l = true) : (makeMsg l s).length = l.length := by
  unfold makeMsg; rw [if_pos h, mkFrom_length]; simp
theorem makeMsg_small (l : List Fd) (s : Int) : (makeMsg l s).length ≤ 6 := by
  unfold makeMsg
  split
  · rename_i h; rw [mkFrom_length]; have := (format_at h).1; simp; omega
  · simp
theorem fits_items {l : List Fd} {m : List Va} (h : fitsFormat l m = true) : isFormat l = true ∧ l.length = m.length ∧ ∀ i, i < l.length → (nt zVa m i).f1.length ≤ 99 := by
  unfold fitsFormat at h
  rw [Bool.and_eq_true, Bool.and_eq_true, decide_eq_true_eq, allFrom_iff] at h
  obtain ⟨h1, h2, h3⟩ := h
  refine ⟨h1, h2, fun i hi => ?_⟩
  have := h3 i (by omega) (by omega)
  have hf := (format_at h1).2 i hi
  unfold fitAt at this
  by_cases q : isThere l m i = true
  · rw [if_pos q] at this
    unfold fitsField at this
    split at this
    · simp only [Bool.and_eq_true, beq_iff_eq] at this; omega
    · split at this
      · simp only [Bool.and_eq_true, decide_eq_true_eq] at this; omega
      · split at this
        · simp only [Bool.and_eq_true, decide_eq_true_eq] at this; omega
        · simp at this
  · rw [if_neg q] at this
    simp only [Bool.and_eq_true, decide_eq_true_eq] at this; omega
theorem encAt_length {l : List Fd} {m : List Va} {i : Nat} (h : (nt zVa m i).f1.length ≤ 99) : (encAt l m i).length ≤ 100 := by
  unfold encAt
  split
  · split
    · simp
    · simp; omega
  · simp
theorem encFrom_length {l : List Fd} {m : List Va} (h : ∀ i, i < l.length → (nt zVa m i).f1.length ≤ 99) : ∀ d i, i + d = l.length → (encFrom l m d i).length ≤ 100 * d := by
  intro d
  induction d with
  | zero => intro i _; simp [encFrom]
  | succ d ih =>
    intro i hi
    simp only [encFrom]
    have h1 := ih (i + 1) (by omega)
    have h2 := encAt_length (l := l) (h i (by omega))
    rw [List.length_append]; omega
theorem makeBytes_length (l : List Fd) (s : Int) : (makeBytes l s).length ≤ 600 := by
  unfold makeBytes encodeMsg
  split
  · rename_i h
    obtain ⟨h1, h2, h3⟩ := fits_items h
    have := encFrom_length h3 l.length 0 (by omega)
    have := (format_at h1).1
    show (encFrom _ _ _ _).length ≤ 600; omega
  · simp
theorem mkVal_items {l : List Fd} {s : Int} (h : isFormat l = true) (acc : List Va) (i : Nat) : (mkVal l s acc i).f1.length ≤ 99 := by
  unfold mkVal
  split
  · rename_i q
    split
    · simp
    · have hi : i < l.length := by
        unfold isThere at q; rw [Bool.and_eq_true, decide_eq_true_eq] at q; exact q.1
      have hf := (format_at h).2 i hi
      have := pick_bound (a := s) (b := 16 * (i : Int)) (c := (nt zFd l i).f1 + 1) (by omega) (by omega)
      rw [items_length]; omega
  · simp
theorem mkFrom_items {l : List Fd} {s : Int} (h : isFormat l = true) : ∀ (d : Nat) (acc : List Va) (i : Nat), (∀ v ∈ acc, v.f1.length ≤ 99) → ∀ v ∈ mkFrom l s d acc i, v.f1.length ≤ 99 := by
  intro d
  induction d with
  | zero => intro acc i ha; exact ha
  | succ d ih =>
    intro acc i ha
    refine ih _ _ (fun v hv => ?_)
    rcases List.mem_append.1 hv with hv | hv
    · exact ha v hv
    · rw [List.mem_singleton.1 hv]; exact mkVal_items h acc i
theorem makeMsg_items (l : List Fd) (s : Int) (i : Nat) : (nt zVa (makeMsg l s) i).f1.length ≤ 99 := by
  by_cases hi : i < (makeMsg l s).length
  · have hm := nt_mem zVa (makeMsg l s) i hi
    revert hm
    generalize nt zVa (makeMsg l s) i = v
    unfold makeMsg
    split
    · rename_i h; exact fun hm => mkFrom_items h l.length [] 0 (by simp) v hm
    · intro hm; simp at hm
  · have : nt zVa (makeMsg l s) i = zVa := by unfold nt; rw [List.getD_eq_getElem?_getD, List.getElem?_eq_none (by omega)]; rfl
    rw [this]; exact Nat.zero_le _
theorem readVal_len {x : Fd} {b : List Int} {v : Va} {n : Nat} (h : readVal x b = some (v, n)) : n ≤ b.length ∧ 0 < n := by
  unfold readVal at h
  split at h
  · simp at h
  · split at h
    · split at h
      · simp only [Option.some.injEq, Prod.mk.injEq] at h; omega
      · simp at h
    · split at h
      · split at h
        · simp only [Option.some.injEq, Prod.mk.injEq] at h; omega
        · simp at h
      · simp at h

/-! ### T_eqMsgs -/
def sameVa (x y : Va) : Bool := decide (x.f0 = y.f0) && decide (x.f1 = y.f1)
def eqMsgs (a b : List Va) : Bool := decide (a.length = b.length) && allFrom (fun i => sameVa (nt zVa a i) (nt zVa b i)) 0 a.length
def skipsTail (l m : List Fd) (s : Int) : Bool := if (readPrefix l (makeBytes m s)).2 ≥ 0 ∧ (makeMsg m s).length ≥ (readPrefix l (makeBytes m s)).1.length then eqMsgs (readPrefix l (makeBytes m s)).1 ((makeMsg m s).take (readPrefix l (makeBytes m s)).1.length) else false
theorem rdFrom_length {l : List Fd} {b : List Int} : ∀ (d : Nat) (acc : List Va) (a i : Nat) (m : List Va) (n : Nat), rdFrom l b d acc a i = some (m, n) → m.length = acc.length + d := by
  intro d
  induction d with
  | zero =>
    intro acc a i m n h
    simp only [rdFrom, Option.some.injEq, Prod.mk.injEq] at h
    rw [← h.1]; rfl
  | succ d ih =>
    intro acc a i m n h
    simp only [rdFrom] at h
    split at h
    · split at h
      · simp at h
      · have := ih _ _ _ _ _ h; rw [List.length_append, List.length_singleton] at this; omega
    · have := ih _ _ _ _ _ h; rw [List.length_append, List.length_singleton] at this; omega
theorem readPrefix_length {l : List Fd} {b : List Int} (h : (readPrefix l b).2 ≥ 0) : (readPrefix l b).1.length = l.length := by
  unfold readPrefix at h ⊢
  split at h
  · rename_i hf
    rw [if_pos hf]
    cases e : rdFrom l b l.length [] 0 0 with
    | none => rw [e] at h; simp at h
    | some p => obtain ⟨m, n⟩ := p; have := rdFrom_length _ _ _ _ _ _ e; simpa using this
  · simp at h
theorem readPrefix_most (l : List Fd) (b : List Int) : (readPrefix l b).1.length ≤ 6 := by
  by_cases h : (readPrefix l b).2 ≥ 0
  · rw [readPrefix_length h]
    unfold readPrefix at h
    split at h
    · rename_i hf; exact (format_at hf).1
    · simp at h
  · unfold readPrefix at h ⊢
    split at h
    · rename_i hf
      rw [if_pos hf]
      cases e : rdFrom l b l.length [] 0 0 with
      | none => simp
      | some p => obtain ⟨m, n⟩ := p; rw [e] at h; exact absurd (show ((n : Nat) : Int) ≥ 0 by omega) h
    · rename_i hf; rw [if_neg hf]; simp
theorem readVal_items {x : Fd} {b : List Int} {v : Va} {n : Nat} (h : readVal x b = some (v, n)) : v.f1.length ≤ b.length := by
  unfold readVal at h
  split at h
  · simp at h
  · split at h
    · split at h
      · simp only [Option.some.injEq, Prod.mk.injEq] at h; rw [← h.1]; simp
      · simp at h
    · split at h
      · split at h
        · simp only [Option.some.injEq, Prod.mk.injEq] at h; rw [← h.1]; simp [List.length_take]; omega
        · simp at h
      · simp at h
theorem rdFrom_items {l : List Fd} {b : List Int} : ∀ (d : Nat) (acc : List Va) (a i : Nat) (m : List Va) (n : Nat), (∀ v ∈ acc, v.f1.length ≤ b.length) → rdFrom l b d acc a i = some (m, n) → ∀ v ∈ m, v.f1.length ≤ b.length := by
  intro d
  induction d with
  | zero =>
    intro acc a i m n ha h
    simp only [rdFrom, Option.some.injEq, Prod.mk.injEq] at h
    rw [← h.1]; exact ha
  | succ d ih =>
    intro acc a i m n ha h
    simp only [rdFrom] at h
    split at h
    · split at h
      · simp at h
      · rename_i v k e
        refine ih _ _ _ _ _ (fun w hw => ?_) h
        rcases List.mem_append.1 hw with hw | hw
        · exact ha w hw
        · rw [List.mem_singleton.1 hw]; have := readVal_items e; rw [List.length_drop] at this; omega
    · refine ih _ _ _ _ _ (fun w hw => ?_) h
      rcases List.mem_append.1 hw with hw | hw
      · exact ha w hw
      · rw [List.mem_singleton.1 hw]; exact Nat.zero_le _
theorem readPrefix_items (l : List Fd) (b : List Int) : ∀ v ∈ (readPrefix l b).1, v.f1.length ≤ b.length := by
  unfold readPrefix
  split
  · cases e : rdFrom l b l.length [] 0 0 with
    | none => intro v hv; simp at hv
    | some p => obtain ⟨m, n⟩ := p; exact rdFrom_items _ _ _ _ _ _ (by simp) e
  · intro v hv; simp at hv

/-! ### impl_InRange -/
theorem impl_InRange_eq (a b c : Int) : impl_InRange.f a b c = some (decide (b ≤ a ∧ a ≤ c)) := by
  unfold impl_InRange.f
  by_cases h : b ≤ a
  · rw [if_pos h]; simp [h]
  · rw [if_neg h, decide_eq_false (by omega)]

/-! ### impl_IsFormat -/
theorem impl_isField_eq {l : List Fd} {i k : Nat} (hi : i < l.length) (hl : l.length ≤ 1048576) (hk : 3 < k) : impl_isField.f k (nt zFd l i).f0 (nt zFd l i).f1 (nt zFd l i).f2 (nt zFd l i).f3 (l.take i) = some (okFd l i) := by
  obtain ⟨k, rfl⟩ : ∃ m, k = m + 2 := ⟨k - 2, by omega⟩
  have ht : (l.take i).length = i := by rw [List.length_take]; omega
  have hj : ∀ m, impl_isField.j0 (k + 2) (l.take i) m (nt zFd l i).f0 (nt zFd l i).f1 (nt zFd l i).f2 (nt zFd l i).f3 = some (inB (nt zFd l i).f0 1 3 && (inB (nt zFd l i).f1 1 m && (if (nt zFd l i).f2 = -1 then (nt zFd l i).f3 == 0 else
      inB (nt zFd l i).f2 0 ((i : Int) - 1) && (decide ((nt zFd l (nt zFd l i).f2.toNat).f0 = 1) && (decide ((nt zFd l (nt zFd l i).f2.toNat).f2 = -1) && inB (nt zFd l i).f3 0 (nt zFd l (nt zFd l i).f2.toNat).f1))))) := by
    intro m
    simp only [impl_isField.j0, impl_InRange_eq, inB_dec, Option.bind_some, impl_isField.j1]
    by_cases b1 : inB (nt zFd l i).f0 1 3 = true
    · rw [if_pos b1, b1]
      by_cases b2 : inB (nt zFd l i).f1 1 m = true
      · rw [b2, if_neg (by simp)]
        by_cases b3 : (nt zFd l i).f2 = -1
        · rw [if_pos b3, if_pos b3]; rfl
        · rw [if_neg b3, if_neg b3, ht, wrap_id (x := (i : Int) - 1) (by omega) (by omega)]
          by_cases b4 : inB (nt zFd l i).f2 0 ((i : Int) - 1) = true
          · have hb : 0 ≤ (nt zFd l i).f2 ∧ (nt zFd l i).f2 ≤ (i : Int) - 1 := by simpa [inB] using b4
            have hn : nt zFd (l.take i) (nt zFd l i).f2.toNat = nt zFd l (nt zFd l i).f2.toNat := by
              have h1 : (nt zFd l i).f2.toNat < (l.take i).length := by omega
              have h2 : (nt zFd l i).f2.toNat < l.length := by omega
              exact (nt_lt _ zFd _ h1).trans (List.getElem_take.trans (nt_lt _ zFd _ h2).symm)
            rw [if_pos b4, if_pos hb.1, if_pos (by omega), rd_FdI, b4, hn]
            by_cases b5 : (nt zFd l (nt zFd l i).f2.toNat).f0 = 1
            · rw [if_pos b5, decide_eq_true b5]
              by_cases b6 : (nt zFd l (nt zFd l i).f2.toNat).f2 = -1
              · rw [if_pos b6, decide_eq_true b6]; rfl
              · rw [if_neg b6, decide_eq_false b6]; rfl
            · rw [if_neg b5, decide_eq_false b5]; rfl
          · rw [if_neg b4]; simp [b4]
      · rw [if_pos (by simp [b2])]; simp [b2]
    · rw [if_neg b1, if_pos trivial]; simp [b1]
  unfold impl_isField.f okFd
  rw [hj, hj]
  by_cases b0 : (nt zFd l i).f0 = 1
  · rw [if_pos b0, if_pos b0]
  · rw [if_neg b0, if_neg b0]
theorem impl_IsFormat_eq {l : List Fd} {k : Nat} (hl : l.length ≤ 1048576) (hk : l.length + 4 < k) : impl_IsFormat.f k l = some (isFormat l) := by
  unfold impl_IsFormat.f isFormat
  exact all_loop (g := fun k i => impl_IsFormat.l0 k l l (l.length : Int) (i : Int)) (n := l.length) (B := 4) (fun k => by
      simp only [impl_IsFormat.l0]; rw [if_neg (by omega), impl_InRange_eq, inB_dec]; rfl)
    (fun k i hi hk => by
      simp only [impl_IsFormat.l0]
      rw [if_pos (by omega), if_pos (by omega), if_pos (by omega), if_pos (by omega), rd_Fd, toNat_cast, impl_isField_eq hi hl (by omega), wrap_up (n := l.length) hi (by omega), Option.bind_some]) l.length k 0 (by omega) (by omega)

/-! ### impl_IsThere -/
theorem impl_IsThere_eq {l : List Fd} {m : List Va} {i : Nat} (hl : l.length ≤ 1048576) (hm : m.length ≤ 1048576) : impl_IsThere.f l m (i : Int) = some (isThere l m i) := by
  unfold impl_IsThere.f isThere
  rw [impl_InRange_eq, Option.bind_some, wrap_id (x := (l.length : Int) - 1) (by omega) (by omega)]
  by_cases h : i < l.length
  · rw [if_pos (by simp; omega), if_pos (by omega), if_pos (by omega), rd_Fd, impl_InRange_eq, Option.bind_some, wrap_id (x := (m.length : Int) - 1) (by omega) (by omega), inB_dec, decide_eq_true h]
    by_cases q : (nt zFd l i).f2 = -1
    · rw [if_pos q]; simp [q]
    · rw [if_neg q]
      by_cases b : inB (nt zFd l i).f2 0 ((m.length : Int) - 1) = true
      · have hb : 0 ≤ (nt zFd l i).f2 ∧ (nt zFd l i).f2 ≤ (m.length : Int) - 1 := by simpa [inB] using b
        rw [if_pos b, if_pos hb.1, if_pos (by omega), rd_VaI]; simp [q, b]
      · rw [if_neg b]; simp [q, b]
  · rw [if_neg (by simp; omega)]; simp [h]

/-! ### impl_Mod -/
theorem impl_Mod_eq (a b : Int) : impl_Mod.f a b = some (modOf a b) := by
  unfold impl_Mod.f modOf
  rw [impl_InRange_eq, Option.bind_some]
  by_cases h : (1 : Int) ≤ b ∧ b ≤ 1000000000000
  · rw [decide_eq_true h, if_pos rfl, if_neg (by omega), if_pos h]
  · rw [decide_eq_false h, if_neg (by simp), if_neg h]

/-! ### impl_Hash -/
theorem impl_Hash_eq {l : List Int} {k : Nat} (hl : l.length ≤ 9223372036854775807) (hk : l.length < k) : impl_Hash.f k l = some (hashOf l) := by
  unfold impl_Hash.f
  have h := fold_loop (g := fun k s i => impl_Hash.l0 k s l (l.length : Int) (i : Int)) (n := l.length) (B := 0) (f := fun i s => hashStep s (nt 0 l i)) (fin := id) (fun _ _ => True) (fun k s _ => by
      simp only [impl_Hash.l0]; rw [if_neg (by omega)]; rfl)
    (fun k i s hi _ _ => by
      refine ⟨?_, trivial⟩
      simp only [impl_Hash.l0]
      rw [if_pos (by omega), if_pos (by omega), if_pos (by omega), wrap_up (n := l.length) hi hl, rd_cast, impl_Mod_eq, Option.bind_some]; rfl) l.length k 0 11 (by omega) (by omega) trivial
  rw [foldFrom_list (f := hashStep)] at h
  exact h

/-! ### impl_PickOf -/
theorem impl_PickOf_eq {a b c : Int} {k : Nat} (hk : 2 < k) : impl_PickOf.f k a b c = some (pickOf a b c) := by
  unfold impl_PickOf.f pickOf
  rw [impl_Hash_eq (by simp) (by simpa using hk), Option.bind_some, impl_Mod_eq, Option.bind_some]
  by_cases h : c < 1
  · rw [if_pos h, if_pos h]
  · rw [if_neg h, if_neg h]

/-! ### impl_MakeMessage -/
theorem impl_MakeMessage_l1 {l : List Fd} {s : Int} {acc : List Va} {i D : Nat} {R : Option (List Va)} {P : Nat} (hi : i ≤ 6) (ha : acc.length ≤ 6) (hP : P ≤ 99) (hn : ∀ k, D < k → impl_MakeMessage.l0 k l s (acc ++ [⟨0, itemsOf s i P⟩]) l (l.length : Int) ((i + 1 : Nat) : Int) = R) : ∀ (c k j : Nat), j + c = P → D + c + 5 < k → impl_MakeMessage.l1 k l s acc (i : Int) l (l.length : Int) (i : Int) (P : Int) (j : Int) 0 (itemsOf s i j) = R := by
  intro c
  induction c with
  | zero =>
    intro k j hj hk
    obtain ⟨k, rfl⟩ := succ_of hk
    obtain rfl : j = P := by omega
    simp only [impl_MakeMessage.l1]
    rw [if_neg (by omega), if_pos (by omega), wrap_id (x := (i : Int) + 1) (by omega) (by omega), show (i : Int) + 1 = ((i + 1 : Nat) : Int) by omega]
    exact hn k (by omega)
  | succ c ih =>
    intro k j hj hk
    obtain ⟨k, rfl⟩ := succ_of hk
    simp only [impl_MakeMessage.l1]
    rw [if_pos (by omega), impl_PickOf_eq (by omega), Option.bind_some, if_pos (by rw [items_length]; omega), wrap_id (x := 16 * (i : Int)) (by omega) (by omega), wrap_id (x := 16 * (i : Int) + (j : Int)) (by omega) (by omega), wrap_id (x := 16 * (i : Int) + (j : Int) + 1) (by omega) (by omega), ← items_succ, wrap_id (x := (j : Int) + 1) (by omega) (by omega), show (j : Int) + 1 = ((j + 1 : Nat) : Int) by omega]
    exact ih k (j + 1) (by omega) (by omega)
theorem impl_MakeMessage_l0 {l : List Fd} {s : Int} (hf : isFormat l = true) : ∀ (d k i : Nat) (acc : List Va), i + d = l.length → acc.length = i → 120 * d + 60 < k → impl_MakeMessage.l0 k l s acc l (l.length : Int) (i : Int) = some (mkFrom l s d acc i) := by
  have h6 := (format_at hf).1
  intro d
  induction d with
  | zero =>
    intro k i acc h ha hk
    obtain ⟨k, rfl⟩ := succ_of hk
    simp only [impl_MakeMessage.l0]
    rw [if_neg (by omega)]; rfl
  | succ d ih =>
    intro k i acc h ha hk
    obtain ⟨k, rfl⟩ := succ_of hk
    have hx := (format_at hf).2 i (by omega)
    have hp := pick_bound (a := s) (b := 16 * (i : Int)) (c := (nt zFd l i).f1 + 1) (by omega) (by omega)
    simp only [impl_MakeMessage.l0, mkFrom, mkVal]
    rw [if_pos (by omega), if_pos (by omega), if_pos (by omega), rd_Fd, impl_PickOf_eq (by omega), Option.bind_some, impl_IsThere_eq (by omega) (by omega), Option.bind_some, wrap_id (x := 16 * (i : Int)) (by omega) (by omega), wrap_id (x := (nt zFd l i).f1 + 1) (by omega) (by omega), wrap_up (n := l.length) (by omega) (by omega)]
    by_cases q : isThere l acc i = true
    · rw [if_pos q, if_pos q]
      by_cases q1 : (nt zFd l i).f0 = 1
      · rw [if_pos q1, if_pos q1, if_pos (by omega)]
        exact ih k (i + 1) _ (by omega) (by rw [List.length_append, List.length_singleton]; omega) (by omega)
      · rw [if_neg q1, if_neg q1]
        obtain ⟨P, hP⟩ : ∃ P : Nat, pickOf s (16 * (i : Int)) ((nt zFd l i).f1 + 1) = P := ⟨(pickOf s (16 * (i : Int)) ((nt zFd l i).f1 + 1)).toNat, by omega⟩
        rw [hP] at hp ⊢
        rw [toNat_cast]
        exact impl_MakeMessage_l1 (D := 120 * d + 60) (by omega) (by omega) (by omega) (fun k hk => ih k (i + 1) _ (by omega) (by rw [List.length_append, List.length_singleton]; omega) hk) P k 0 (by omega) (by omega)
    · rw [if_neg q, if_neg q, if_pos (by omega)]
      exact ih k (i + 1) _ (by omega) (by rw [List.length_append, List.length_singleton]; omega) (by omega)
theorem impl_MakeMessage_eq {l : List Fd} {s : Int} {k : Nat} (hl : l.length ≤ 1048576) (hk : l.length + 1000 < k) : impl_MakeMessage.f k l s = some (makeMsg l s) := by
  unfold impl_MakeMessage.f makeMsg
  rw [Option.bind_some, impl_IsFormat_eq hl (by omega), Option.bind_some]
  by_cases q : isFormat l = true
  · have h6 := (format_at q).1
    rw [if_pos q, if_pos q]
    exact impl_MakeMessage_l0 q l.length k 0 [] (by omega) rfl (by omega)
  · rw [if_neg q, if_neg q]

/-! ### impl_FitsField -/
theorem impl_areNumbers_eq (l : List Int) (hi : Int) : impl_areNumbers.f l 0 hi = some (numsIn l hi) := by
  unfold impl_areNumbers.f impl_areNumbers_any.f numsIn
  rw [Option.bind_some, List.not_any_eq_all_not]
  simp
theorem impl_FitsField_eq (x : Fd) (v : Va) : impl_FitsField.f x.f0 x.f1 x.f2 x.f3 v.f0 v.f1 = some (fitsField x v) := by
  unfold impl_FitsField.f fitsField
  rw [impl_InRange_eq, Option.bind_some, impl_areNumbers_eq, impl_areNumbers_eq, Option.bind_some, Option.bind_some, inB_dec]
  by_cases h1 : x.f0 = 1
  · rw [if_pos h1, if_pos h1]
    by_cases b : inB v.f0 0 x.f1 = true
    · rw [if_pos b, b]; rfl
    · rw [if_neg b]; simp [b]
  · rw [if_neg h1, if_neg h1]
    by_cases h2 : x.f0 = 2
    · rw [if_pos h2, if_pos h2]
      by_cases a : v.f0 = 0
      · rw [if_pos a]
        by_cases b : (v.f1.length : Int) ≤ x.f1
        · rw [if_pos b]; simp [a, b]
        · rw [if_neg b]; simp [b]
      · rw [if_neg a]; simp [a]
    · rw [if_neg h2, if_neg h2]
      by_cases h3 : x.f0 = 3
      · rw [if_pos h3, if_pos h3]
        by_cases a : v.f0 = 0
        · rw [if_pos a]
          by_cases b : (v.f1.length : Int) ≤ x.f1
          · rw [if_pos b]; simp [a, b]
          · rw [if_neg b]; simp [b]
        · rw [if_neg a]; simp [a]
      · rw [if_neg h3, if_neg h3]

/-! ### impl_FitsFormat -/
theorem impl_FitsFormat_eq {l : List Fd} {m : List Va} {k : Nat} (hl : l.length ≤ 1048576) (hm : m.length ≤ 1048576) (hk : l.length + 6 < k) : impl_FitsFormat.f k l m = some (fitsFormat l m) := by
  obtain ⟨k, rfl⟩ := succ_of hk
  unfold impl_FitsFormat.f fitsFormat
  rw [impl_IsFormat_eq hl (by omega), Option.bind_some]
  have hj : impl_FitsFormat.j0 (k + 1) l m true = some false := by simp only [impl_FitsFormat.j0, if_true]
  cases isFormat l with
  | false => rw [if_neg (by simp), hj]; rfl
  | true =>
    rw [if_pos rfl]
    by_cases e : l.length = m.length
    · have e' : ((l.length : Int) != (m.length : Int)) = false := by rw [bne_eq_false_iff_eq]; omega
      rw [e', decide_eq_true e]
      simp only [impl_FitsFormat.j0]
      rw [if_neg (by simp)]
      have h := all_loop (g := fun k i => impl_FitsFormat.l0 k l m l (l.length : Int) (i : Int)) (n := l.length) (B := 0) (ok := fitAt l m) (fin := true) (fun k => by
          simp only [impl_FitsFormat.l0]; rw [if_neg (by omega)])
        (fun k i hi _ => by
          simp only [impl_FitsFormat.l0]
          rw [if_pos (by omega), if_pos (by omega), if_pos (by omega), impl_IsThere_eq hl hm, rd_Fd, rd_Va, if_pos (show (i : Int) < (m.length : Int) by omega), impl_FitsField_eq, wrap_up (n := l.length) hi (by omega)]
          simp only [Option.bind_some]
          unfold fitAt
          by_cases q : isThere l m i = true
          · simp only [q, if_true]
          · simp only [q, Bool.false_eq_true, if_false]
            rw [if_pos (show (i : Int) < (m.length : Int) by omega)]
            by_cases n0 : (nt zVa m i).f0 = 0
            · rw [if_pos n0, decide_eq_true n0]
              by_cases n1 : (nt zVa m i).f1.length = 0
              · rw [if_neg (by omega), decide_eq_true n1]; rfl
              · rw [if_pos (by omega), decide_eq_false n1]; rfl
            · rw [if_neg n0, decide_eq_false n0]; rfl) l.length k 0 (by omega) (by omega)
      simpa using h
    · have e' : ((l.length : Int) != (m.length : Int)) = true := by rw [bne_iff_ne]; omega
      rw [e', hj, decide_eq_false e]; rfl

/-! ### impl_EncodeMessage -/
theorem impl_EncodeMessage_l0 {l : List Fd} {m : List Va} (hl : l.length ≤ 1000) (hm : l.length = m.length) (hv : ∀ i, (nt zVa m i).f1.length ≤ 1000) : ∀ (d k i : Nat) (acc : List Int), i + d = l.length → acc.length ≤ 1001 * i → d < k → impl_EncodeMessage.l0 k l m acc l (l.length : Int) (i : Int) = some (acc ++ encFrom l m d i, true) := by
  intro d
  induction d with
  | zero =>
    intro k i acc h ha hk
    obtain ⟨k, rfl⟩ := succ_of hk
    simp only [impl_EncodeMessage.l0]
    rw [if_neg (by omega)]; simp [encFrom]
  | succ d ih =>
    intro k i acc h ha hk
    obtain ⟨k, rfl⟩ := succ_of hk
    have hvi := hv i
    simp only [impl_EncodeMessage.l0, encFrom, encAt]
    rw [if_pos (by omega), if_pos (by omega), if_pos (by omega), impl_IsThere_eq (by omega) (by omega), Option.bind_some, rd_Fd, rd_Va, wrap_up (n := l.length) (by omega) (by omega)]
    by_cases q : isThere l m i = true
    · rw [if_pos q, if_pos q]
      by_cases q1 : (nt zFd l i).f0 = 1
      · rw [if_pos q1, if_pos q1, if_pos (by omega), if_pos (by omega), ih k (i + 1) _ (by omega) (by rw [List.length_append, List.length_singleton]; omega) (by omega), List.append_assoc]
      · rw [if_neg q1, if_neg q1, if_pos (by omega), if_pos (by omega), Option.bind_some, if_pos (by rw [List.length_append, List.length_singleton]; omega), ih k (i + 1) _ (by omega) (by rw [List.length_append, List.length_append, List.length_singleton]; omega) (by omega)]
        simp
    · rw [if_neg q, if_neg q, ih k (i + 1) _ (by omega) (by omega) (by omega)]; simp
theorem impl_EncodeMessage_eq {l : List Fd} {m : List Va} {k : Nat} (hl : l.length ≤ 1048576) (hm : m.length ≤ 1048576) (hv : ∀ i, (nt zVa m i).f1.length ≤ 1000) (hk : l.length + 6 < k) : impl_EncodeMessage.f k l m = some (encodeMsg l m) := by
  unfold impl_EncodeMessage.f encodeMsg
  rw [impl_FitsFormat_eq hl hm hk, Option.bind_some]
  by_cases q : fitsFormat l m = true
  · obtain ⟨h1, h2, _⟩ := fits_items q
    have := (format_at h1).1
    rw [if_pos q, if_pos q]
    have h := impl_EncodeMessage_l0 (l := l) (m := m) (by omega) h2 hv l.length k 0 [] (by omega) (by simp) (by omega)
    simpa using h
  · rw [if_neg q, if_neg q]

/-! ### impl_MakeBytes -/
theorem impl_MakeBytes_eq {l : List Fd} {s : Int} {k : Nat} (hl : l.length ≤ 1048576) (hk : l.length + 1000 < k) : impl_MakeBytes.f k l s = some (makeBytes l s) := by
  unfold impl_MakeBytes.f makeBytes
  have := makeMsg_small l s
  rw [impl_MakeMessage_eq hl hk, Option.bind_some, impl_EncodeMessage_eq hl (by omega) (fun i => by have := makeMsg_items l s i; omega) (by omega), Option.bind_some]

/-! ### impl_readField -/
theorem fits_most {x : Fd} {v : Va} (h : fitsField x v = true) (h1 : x.f0 ≠ 1) : (v.f1.length : Int) ≤ x.f1 := by
  unfold fitsField at h
  rw [if_neg h1] at h
  split at h
  · simp only [Bool.and_eq_true, decide_eq_true_eq] at h; exact h.2.1
  · split at h
    · simp only [Bool.and_eq_true, decide_eq_true_eq] at h; exact h.2.1
    · simp at h
theorem impl_readField_eq {b : List Int} (x : Fd) (hb : b.length ≤ 1048576) : ∃ r, impl_readField.f x.f0 x.f1 x.f2 x.f3 b = some r ∧ (match readVal x b with | none => r.2.2.2 = false | some (v, n) => r = (v.f0, v.f1, (n : Int), true)) := by
  unfold impl_readField.f readVal
  by_cases h0 : b.length = 0
  · rw [if_pos (by omega), if_pos h0]; exact ⟨_, rfl, rfl⟩
  · rw [if_neg (by omega), if_neg h0]
    have hr : rd b 0 = nt 0 b 0 := rd_cast b 0
    rw [hr]
    obtain ⟨h, hh⟩ : ∃ h, h = nt 0 b 0 := ⟨_, rfl⟩
    rw [← hh]
    by_cases h1 : x.f0 = 1
    · rw [if_pos h1, if_pos h1, if_pos (by omega), impl_FitsField_eq x ⟨h, []⟩, Option.bind_some]
      by_cases q : fitsField x ⟨h, []⟩ = true
      · rw [if_pos q, q]; exact ⟨_, rfl, rfl⟩
      · rw [if_neg q]; exact ⟨_, rfl, by simpa using q⟩
    · rw [if_neg h1, if_neg h1, if_pos (by omega), impl_InRange_eq, Option.bind_some, wrap_id (x := (b.length : Int) - 1) (by omega) (by omega)]
      have hmn : mn x.f1 ((b.length : Int) - 1) ≤ (b.length : Int) - 1 ∧ (mn x.f1 ((b.length : Int) - 1) = x.f1 ∨ mn x.f1 ((b.length : Int) - 1) = (b.length : Int) - 1) := by
        unfold mn; split <;> omega
      by_cases q : 0 ≤ h ∧ h ≤ mn x.f1 ((b.length : Int) - 1)
      · have hl2 : ((b.drop 1).take h.toNat).length = h.toNat := by rw [List.length_take, List.length_drop]; omega
        have ht : (b.take ((1 + h : Int)).toNat).drop 1 = (b.drop 1).take h.toNat := by
          rw [List.drop_take, show (1 + h : Int).toNat - 1 = h.toNat by omega]
        rw [if_pos (by simpa using q), wrap_id (x := 1 + h) (by omega) (by omega), if_pos (by omega), if_pos (by omega), ht]
        unfold slices_Clone_int_int.f
        rw [if_pos (by rw [hl2]; omega), Option.bind_some, impl_FitsField_eq x ⟨0, (b.drop 1).take h.toNat⟩, Option.bind_some, if_pos (by omega)]
        by_cases f : fitsField x ⟨0, (b.drop 1).take h.toNat⟩ = true
        · rw [if_pos f, f]; exact ⟨_, rfl, by show ((0 : Int), (b.drop 1).take h.toNat, 1 + h, true) = (0, (b.drop 1).take h.toNat, ((1 + h.toNat : Nat) : Int), true); rw [show ((1 + h.toNat : Nat) : Int) = 1 + h by omega]⟩
        · rw [if_neg f]; exact ⟨_, rfl, by simpa using f⟩
      · rw [if_neg (by simpa using q)]
        refine ⟨_, rfl, ?_⟩
        by_cases q2 : 0 ≤ h ∧ h ≤ (b.length : Int) - 1
        · have hl2 : ((b.drop 1).take h.toNat).length = h.toNat := by rw [List.length_take, List.length_drop]; omega
          rw [if_pos q2, if_neg (fun f => by
            have := fits_most f h1
            have h3 : (((b.drop 1).take h.toNat).length : Int) ≤ x.f1 := this
            rw [hl2] at h3; omega)]
        · rw [if_neg q2]

/-! ### impl_ReadPrefix -/
theorem impl_ReadPrefix_l0 {l : List Fd} {b : List Int} (hl : l.length ≤ 1000) (hb : b.length ≤ 1048576) : ∀ (d k i a : Nat) (acc : List Va), i + d = l.length → acc.length = i → a ≤ b.length → d < k → impl_ReadPrefix.l0 k l b acc (a : Int) l (l.length : Int) (i : Int) = some (match rdFrom l b d acc a i with | none => ([], -1) | some (m, a) => (m, (a : Int))) := by
  intro d
  induction d with
  | zero =>
    intro k i a acc h ha hab hk
    obtain ⟨k, rfl⟩ := succ_of hk
    simp only [impl_ReadPrefix.l0, rdFrom]
    rw [if_neg (by omega)]
  | succ d ih =>
    intro k i a acc h ha hab hk
    obtain ⟨k, rfl⟩ := succ_of hk
    simp only [impl_ReadPrefix.l0, rdFrom]
    rw [if_pos (by omega), if_pos (by omega), if_pos (by omega), impl_IsThere_eq (by omega) (by omega), Option.bind_some, rd_Fd, wrap_up (n := l.length) (by omega) (by omega), toNat_cast]
    by_cases q : isThere l acc i = true
    · obtain ⟨r, e, hr⟩ := impl_readField_eq (b := b.drop a) (nt zFd l i) (by rw [List.length_drop]; omega)
      rw [if_pos q, if_pos q, if_pos (by omega), if_pos (by omega), e, Option.bind_some]
      cases hv : readVal (nt zFd l i) (b.drop a) with
      | none =>
        rw [hv] at hr
        have hr' : r.2.2.2 = false := hr
        rw [if_neg (by simp [hr'])]
      | some p =>
        obtain ⟨v, n⟩ := p
        rw [hv] at hr
        have hr' : r = (v.f0, v.f1, (n : Int), true) := hr
        have hn := readVal_len hv
        rw [List.length_drop] at hn
        subst hr'
        dsimp only
        rw [if_pos rfl, if_pos (by omega), wrap_id (x := (a : Int) + n) (by omega) (by omega), show (a : Int) + (n : Int) = ((a + n : Nat) : Int) by omega]
        exact ih k (i + 1) (a + n) _ (by omega) (by rw [List.length_append, List.length_singleton]; omega) (by omega) (by omega)
    · rw [if_neg q, if_neg q, if_pos (by omega)]
      exact ih k (i + 1) a _ (by omega) (by rw [List.length_append, List.length_singleton]; omega) hab (by omega)
theorem impl_ReadPrefix_eq {l : List Fd} {b : List Int} {k : Nat} (hl : l.length ≤ 1048576) (hb : b.length ≤ 1048576) (hk : l.length + 4 < k) : impl_ReadPrefix.f k l b = some (readPrefix l b) := by
  unfold impl_ReadPrefix.f readPrefix
  rw [impl_IsFormat_eq hl hk, Option.bind_some]
  by_cases q : isFormat l = true
  · have h6 := (format_at q).1
    rw [if_pos q, if_pos q]
    exact impl_ReadPrefix_l0 (by omega) hb l.length k 0 0 [] (by omega) rfl (by omega) (by omega)
  · rw [if_neg q, if_neg q]

/-! ### slices_Equal_int_int -/
theorem slices_Equal_int_int_l0 (a b : List Int) (hl : a.length ≤ 9223372036854775807) (he : b.length = a.length) : ∀ (d k i : Nat), i + d = a.length → d < k → slices_Equal_int_int.l0 k a b (a.length : Int) (i : Int) = some (decide (a.drop i = b.drop i)) := by
  intro d
  induction d with
  | zero =>
    intro k i h hk
    obtain ⟨k, rfl⟩ := succ_of hk
    obtain rfl : i = a.length := by omega
    simp only [slices_Equal_int_int.l0]; rw [if_neg (by omega), drop_end, ← he, drop_end]; rfl
  | succ d ih =>
    intro k i h hk
    obtain ⟨k, rfl⟩ := succ_of hk
    simp only [slices_Equal_int_int.l0]
    rw [if_pos (by omega), if_pos (by omega), if_pos (by omega), if_pos (by omega), rd_cast, rd_cast, drop_step a 0 i (by omega), drop_step b 0 i (by omega), wrap_up (n := a.length) (by omega) hl, ih k (i + 1) (by omega) (by omega)]
    by_cases e : nt 0 a i = nt 0 b i
    · rw [if_pos e]; simp [e]
    · rw [if_neg e]; simp [e]
theorem slices_Equal_int_int_eq {a b : List Int} {k : Nat} (hl : a.length ≤ 9223372036854775807) (hk : a.length < k) : slices_Equal_int_int.f k a b = some (decide (a = b)) := by
  unfold slices_Equal_int_int.f
  by_cases e : a.length = b.length
  · rw [if_pos (by omega)]
    exact slices_Equal_int_int_l0 a b hl e.symm a.length k 0 (by omega) hk
  · rw [if_neg (by omega), decide_eq_false (fun h => e (by rw [h]))]

/-! ### impl_EqualMessages -/
theorem impl_EqualMessages_lit_eq {x y : Va} {k : Nat} (hl : x.f1.length ≤ 9223372036854775807) (hk : x.f1.length < k) : impl_EqualMessages_lit.f k x.f0 x.f1 y.f0 y.f1 = some (sameVa x y) := by
  unfold impl_EqualMessages_lit.f sameVa
  rw [slices_Equal_int_int_eq hl hk]
  by_cases h : x.f0 = y.f0
  · rw [if_pos h]; simp [h]
  · rw [if_neg h]; simp [h]
theorem impl_EqualMessages_eq {a b : List Va} {k : Nat} (hl : a.length ≤ 1048576) (hm : ∀ v ∈ a, v.f1.length ≤ 1048576) (hk : 2100000 < k) : impl_EqualMessages.f k a b = some (eqMsgs a b) := by
  unfold impl_EqualMessages.f impl_EqualMessages_all.f impl_Value.f eqMsgs
  by_cases e : a.length = b.length
  · rw [if_pos (by omega), decide_eq_true e]
    have h := all_loop (g := fun k i => impl_Value.l0 (inst_ := ⟨fun k_ x0 x1 x2 x3 => impl_EqualMessages_lit.f k_ x0 x1 x2 x3, fun x0 x1 x2 x3 k_ => impl_EqualMessages_lit.mono x0 x1 x2 x3 k_⟩) k b a (a.length : Int) (i : Int)) (n := a.length) (B := 1048577) (ok := fun i => sameVa (nt zVa a i) (nt zVa b i)) (fin := true) (fun k => by
        simp only [impl_Value.l0]; rw [if_neg (by omega)])
      (fun k i hi hk => by
        have hx := hm _ (nt_mem zVa a i hi)
        simp only [impl_Value.l0, KEEP_impl_Value.f]
        rw [if_pos (by omega), if_pos (by omega), if_pos (by omega), if_pos (by omega), rd_Va, rd_Va, wrap_up (n := a.length) hi (by omega), impl_EqualMessages_lit_eq (by omega) (by omega), Option.bind_some]) a.length k 0 (by omega) (by omega)
    rw [show impl_Value.l0 (inst_ := _) k b a (a.length : Int) 0 = _ from h]; simp
  · rw [if_neg (by omega), decide_eq_false e]; rfl

/-! ### impl_SkipsTail -/
theorem impl_SkipsTail_eq {l m : List Fd} {s : Int} {k : Nat} (hl : l.length ≤ 1048576) (hm : m.length ≤ 1048576) (hk : 2200000 < k) : impl_SkipsTail.f k l m s = some (skipsTail l m s) := by
  have hb := makeBytes_length m s
  have hi := readPrefix_items l (makeBytes m s)
  have hs := makeMsg_small m s
  have hr := readPrefix_most l (makeBytes m s)
  unfold impl_SkipsTail.f skipsTail
  rw [impl_MakeBytes_eq hm (by omega), Option.bind_some, impl_ReadPrefix_eq hl (by omega) (by omega), Option.bind_some, impl_MakeMessage_eq hm (by omega), Option.bind_some]
  by_cases q : (readPrefix l (makeBytes m s)).2 ≥ 0
  · have hx := readPrefix_length q
    rw [if_pos q]
    by_cases q2 : (makeMsg m s).length ≥ (readPrefix l (makeBytes m s)).1.length
    · rw [if_pos (by omega), if_pos (by omega), if_pos (by omega), if_pos ⟨q, q2⟩, toNat_cast, ← hx, impl_EqualMessages_eq (by omega) (fun v hv => by have := hi v hv; omega) (by omega), Option.bind_some]
    · rw [if_neg (by omega), if_neg (fun h => q2 h.2)]
  · rw [if_neg q, if_neg (fun h => q h.1)]

/-! ### spec_l1In -/
theorem spec_l1In_eq (a b c : Int) : spec_l1In.f a b c = some (decide (b ≤ a ∧ a ≤ c)) := by
  unfold spec_l1In.f
  by_cases h : a ≥ b
  · rw [if_pos h]; simp [show b ≤ a from h]
  · rw [if_neg h, decide_eq_false (by omega)]

/-! ### spec_IsFormat -/
theorem spec_IsFormat_eq {l : List Fd} {k : Nat} (hl : l.length ≤ 1048576) (hk : 3 * l.length < k) : spec_IsFormat.f k l = some (isFormat l) := by
  unfold spec_IsFormat.f isFormat
  exact all_loopC (g := fun k i => spec_IsFormat.l0 k l (i : Int)) (n := l.length) 3 (fun k => by
      simp only [spec_IsFormat.l0]; rw [if_neg (by omega), spec_l1In_eq, inB_dec]; rfl)
    (fun k i hi => by
      have hj1 : ∀ m, spec_IsFormat.j1 (k + 2) l (i : Int) m (nt zFd l i).f0 (nt zFd l i).f1 (nt zFd l i).f2 (nt zFd l i).f3 = if (inB (nt zFd l i).f0 1 3 && (inB (nt zFd l i).f1 1 m && (if (nt zFd l i).f2 = -1 then (nt zFd l i).f3 == 0 else
          inB (nt zFd l i).f2 0 ((i : Int) - 1) && (decide ((nt zFd l (nt zFd l i).f2.toNat).f0 = 1) && (decide ((nt zFd l (nt zFd l i).f2.toNat).f2 = -1) && inB (nt zFd l i).f3 0 (nt zFd l (nt zFd l i).f2.toNat).f1))))) = true then spec_IsFormat.l0 k l ((i + 1 : Nat) : Int) else some false := by
        intro m
        simp only [spec_IsFormat.j1, spec_l1In_eq, inB_dec, Option.bind_some, spec_IsFormat.j2]
        by_cases b1 : inB (nt zFd l i).f0 1 3 = true
        · rw [if_pos b1, b1]
          by_cases b2 : inB (nt zFd l i).f1 1 m = true
          · rw [b2, if_neg (by simp)]
            by_cases b3 : (nt zFd l i).f2 = -1
            · rw [if_pos b3, if_pos b3, wrap_up (n := l.length) hi (by omega)]
              by_cases b4 : (nt zFd l i).f3 = 0
              · rw [if_pos b4, if_pos (by simp [b4])]
              · rw [if_neg b4, if_neg (by simp [b4])]
            · rw [if_neg b3, if_neg b3, wrap_id (x := (i : Int) - 1) (by omega) (by omega)]
              by_cases b4 : inB (nt zFd l i).f2 0 ((i : Int) - 1) = true
              · have hb : 0 ≤ (nt zFd l i).f2 ∧ (nt zFd l i).f2 ≤ (i : Int) - 1 := by simpa [inB] using b4
                rw [if_pos b4, if_pos hb.1, if_pos (by omega), rd_FdI, b4, wrap_up (n := l.length) hi (by omega)]
                by_cases b5 : (nt zFd l (nt zFd l i).f2.toNat).f0 = 1
                · rw [if_pos b5, decide_eq_true b5]
                  by_cases b6 : (nt zFd l (nt zFd l i).f2.toNat).f2 = -1
                  · rw [if_pos b6, decide_eq_true b6]; rfl
                  · rw [if_neg b6, decide_eq_false b6]; rfl
                · rw [if_neg b5, decide_eq_false b5]; rfl
              · rw [if_neg b4, if_neg (by simp [b4])]
          · rw [if_pos (by simp [b2]), if_neg (by simp [b2])]
        · rw [if_neg b1, if_pos trivial, if_neg (by simp [b1])]
      simp only [spec_IsFormat.l0]
      rw [if_pos (by omega), if_pos (by omega), rd_Fd, hj1, hj1]
      unfold okFd
      by_cases b0 : (nt zFd l i).f0 = 1
      · rw [if_pos b0, if_pos b0]
      · rw [if_neg b0, if_neg b0]) l.length k 0 (by omega) (by omega)

/-! ### spec_IsThere -/
theorem spec_IsThere_eq {l : List Fd} {m : List Va} {i : Nat} (hl : l.length ≤ 1048576) (hm : m.length ≤ 1048576) : spec_IsThere.f l m (i : Int) = some (isThere l m i) := by
  unfold spec_IsThere.f isThere
  rw [spec_l1In_eq, Option.bind_some, wrap_id (x := (l.length : Int) - 1) (by omega) (by omega)]
  by_cases h : i < l.length
  · rw [if_pos (by simp; omega), if_pos (by omega), if_pos (by omega), rd_Fd, spec_l1In_eq, Option.bind_some, wrap_id (x := (m.length : Int) - 1) (by omega) (by omega), inB_dec, decide_eq_true h]
    by_cases q : (nt zFd l i).f2 = -1
    · rw [if_pos q]; simp [q]
    · rw [if_neg q]
      by_cases b : inB (nt zFd l i).f2 0 ((m.length : Int) - 1) = true
      · have hb : 0 ≤ (nt zFd l i).f2 ∧ (nt zFd l i).f2 ≤ (m.length : Int) - 1 := by simpa [inB] using b
        rw [if_pos b, if_pos hb.1, if_pos (by omega), rd_VaI]; simp [q, b]
      · rw [if_neg b]; simp [q, b]
  · rw [if_neg (by simp; omega)]; simp [h]

/-! ### spec_Mod -/
theorem spec_Mod_eq (a b : Int) : spec_Mod.f a b = some (modOf a b) := by
  unfold spec_Mod.f modOf
  rw [spec_l1In_eq, Option.bind_some]
  by_cases h : (1 : Int) ≤ b ∧ b ≤ 1000000000000
  · rw [decide_eq_true h, if_pos rfl, if_neg (by omega), if_pos h]
  · rw [decide_eq_false h, if_neg (by simp), if_neg h]

/-! ### spec_Hash -/
theorem spec_Hash_eq {l : List Int} {k : Nat} (hl : l.length ≤ 9223372036854775807) (hk : l.length < k) : spec_Hash.f k l = some (hashOf l) := by
  unfold spec_Hash.f
  have h := fold_loop (g := fun k s i => spec_Hash.l0 k l s (i : Int)) (n := l.length) (B := 0) (f := fun i s => hashStep s (nt 0 l i)) (fin := id) (fun _ _ => True) (fun k s _ => by
      simp only [spec_Hash.l0]; rw [if_neg (by omega)]; rfl)
    (fun k i s hi _ _ => by
      refine ⟨?_, trivial⟩
      simp only [spec_Hash.l0]
      rw [if_pos (by omega), if_pos (by omega), wrap_up (n := l.length) hi hl, rd_cast, spec_Mod_eq, Option.bind_some]; rfl) l.length k 0 11 (by omega) (by omega) trivial
  rw [foldFrom_list (f := hashStep)] at h
  exact h

/-! ### spec_PickOf -/
theorem spec_PickOf_eq {a b c : Int} {k : Nat} (hk : 2 < k) : spec_PickOf.f k a b c = some (pickOf a b c) := by
  unfold spec_PickOf.f pickOf
  rw [spec_Hash_eq (by simp) (by simpa using hk), Option.bind_some, spec_Mod_eq, Option.bind_some]
  by_cases h : c < 1
  · rw [if_pos h, if_pos h]
  · rw [if_neg h, if_neg h]

/-! ### spec_MakeMessage -/
theorem spec_MakeMessage_l1 {l : List Fd} {s : Int} {acc : List Va} {i D : Nat} {R : Option (List Va)} {P : Nat} (hi : i < l.length) (hl : l.length ≤ 6) (ha : acc.length ≤ 6) (hP : P ≤ 99) (q1 : (nt zFd l i).f0 ≠ 1) (hn : ∀ k, D < k → spec_MakeMessage.l0 k l s (acc ++ [⟨0, itemsOf s i P⟩]) ((i + 1 : Nat) : Int) = R) : ∀ (c k j : Nat), j + c = P → D + c + 5 < k → spec_MakeMessage.l1 k l s acc (i : Int) (P : Int) (j : Int) 0 (itemsOf s i j) = R := by
  intro c
  induction c with
  | zero =>
    intro k j hj hk
    obtain ⟨k, rfl⟩ := succ_of hk
    obtain rfl : j = P := by omega
    simp only [spec_MakeMessage.l1]
    rw [if_neg (by omega), if_pos (by omega), wrap_id (x := (i : Int) + 1) (by omega) (by omega), show (i : Int) + 1 = ((i + 1 : Nat) : Int) by omega]
    exact hn k (by omega)
  | succ c ih =>
    intro k j hj hk
    obtain ⟨k, rfl⟩ := succ_of hk
    simp only [spec_MakeMessage.l1]
    rw [if_pos (by omega), if_pos (by omega), if_pos (by omega), rd_Fd, if_neg q1, spec_PickOf_eq (by omega), Option.bind_some, if_pos (by rw [items_length]; omega), wrap_id (x := 16 * (i : Int)) (by omega) (by omega), wrap_id (x := 16 * (i : Int) + (j : Int)) (by omega) (by omega), wrap_id (x := 16 * (i : Int) + (j : Int) + 1) (by omega) (by omega), ← items_succ, wrap_id (x := (j : Int) + 1) (by omega) (by omega), show (j : Int) + 1 = ((j + 1 : Nat) : Int) by omega]
    exact ih k (j + 1) (by omega) (by omega)
theorem spec_MakeMessage_l0 {l : List Fd} {s : Int} (hf : isFormat l = true) : ∀ (d k i : Nat) (acc : List Va), i + d = l.length → acc.length = i → 120 * d + 60 < k → spec_MakeMessage.l0 k l s acc (i : Int) = some (mkFrom l s d acc i) := by
  have h6 := (format_at hf).1
  intro d
  induction d with
  | zero =>
    intro k i acc h ha hk
    obtain ⟨k, rfl⟩ : ∃ m, k = m + 1 + 1 := ⟨k - 2, by omega⟩
    simp only [spec_MakeMessage.l0]
    rw [if_neg (by omega)]
    simp only [spec_MakeMessage.j1]
    rw [if_neg (by simp)]; rfl
  | succ d ih =>
    intro k i acc h ha hk
    obtain ⟨k, rfl⟩ : ∃ m, k = m + 1 + 1 + 1 + 1 := ⟨k - 4, by omega⟩
    have hx := (format_at hf).2 i (by omega)
    have hp := pick_bound (a := s) (b := 16 * (i : Int)) (c := (nt zFd l i).f1 + 1) (by omega) (by omega)
    simp only [spec_MakeMessage.l0, mkFrom, mkVal]
    rw [if_pos (by omega), spec_IsFormat_eq (by omega) (by omega), Option.bind_some, hf]
    simp only [spec_MakeMessage.j1, if_true]
    rw [spec_IsThere_eq (by omega) (by omega), Option.bind_some, if_pos (show (0 : Int) ≤ (i : Int) by omega), if_pos (show (i : Int) < (l.length : Int) by omega), rd_Fd, spec_PickOf_eq (by omega), Option.bind_some, wrap_id (x := 16 * (i : Int)) (by omega) (by omega), wrap_id (x := (nt zFd l i).f1 + 1) (by omega) (by omega), wrap_up (n := l.length) (by omega) (by omega)]
    obtain ⟨P, hP⟩ : ∃ P : Nat, pickOf s (16 * (i : Int)) ((nt zFd l i).f1 + 1) = P := ⟨(pickOf s (16 * (i : Int)) ((nt zFd l i).f1 + 1)).toNat, by omega⟩
    rw [hP] at hp ⊢
    rw [toNat_cast]
    by_cases q : isThere l acc i = true
    · rw [if_pos q, if_pos q]
      by_cases q1 : (nt zFd l i).f0 = 1
      · rw [if_pos q1, if_pos q1]
        simp only [spec_MakeMessage.j2, spec_MakeMessage.l1]
        rw [if_pos (show (0 : Int) ≤ (i : Int) by omega), if_pos (show (i : Int) < (l.length : Int) by omega), rd_Fd, if_pos q1, if_pos (show acc.length < 4398046511104 by omega), wrap_up (n := l.length) (by omega) (by omega), ih k (i + 1) _ (by omega) (by rw [List.length_append, List.length_singleton]; omega) (by omega)]
        split <;> rfl
      · rw [if_neg q1, if_neg q1]
        simp only [spec_MakeMessage.j2]
        exact spec_MakeMessage_l1 (D := 120 * d + 60) (by omega) (by omega) (by omega) (by omega) q1 (fun k hk => ih k (i + 1) _ (by omega) (by rw [List.length_append, List.length_singleton]; omega) hk) P _ 0 (by omega) (by omega)
    · rw [if_neg q, if_neg q, if_pos (by omega)]
      exact ih _ (i + 1) _ (by omega) (by rw [List.length_append, List.length_singleton]; omega) (by omega)
theorem spec_MakeMessage_eq {l : List Fd} {s : Int} {k : Nat} (hl : l.length ≤ 1048576) (hk : 3 * l.length + 1000 < k) : spec_MakeMessage.f k l s = some (makeMsg l s) := by
  unfold spec_MakeMessage.f makeMsg
  by_cases q : isFormat l = true
  · have h6 := (format_at q).1
    rw [if_pos q]
    exact spec_MakeMessage_l0 q l.length k 0 [] (by omega) rfl (by omega)
  · obtain ⟨k, rfl⟩ : ∃ m, k = m + 1 + 1 := ⟨k - 2, by omega⟩
    rw [if_neg q]
    simp only [spec_MakeMessage.l0]
    rw [spec_IsFormat_eq hl (by omega), Option.bind_some]
    simp only [q, spec_MakeMessage.j1]
    simp

/-! ### spec_FitsField -/
theorem spec_FitsField_l0 {xs : List Int} {top a b c d n : Int} (hl : xs.length ≤ 1048576) : ∀ (e k i : Nat), i + e = xs.length → e < k → spec_FitsField.l0 k top (i : Int) a b c d n xs = some (decide (n = 0) && (decide ((xs.length : Int) ≤ b) && numsIn (xs.drop i) top)) := by
  intro e
  induction e with
  | zero =>
    intro k i h hk
    obtain ⟨k, rfl⟩ := succ_of hk
    obtain rfl : i = xs.length := by omega
    simp only [spec_FitsField.l0]
    rw [if_neg (by omega), drop_end]
    by_cases q : n = 0
    · rw [if_pos q]; simp [q, numsIn]
    · rw [if_neg q]; simp [q]
  | succ e ih =>
    intro k i h hk
    obtain ⟨k, rfl⟩ := succ_of hk
    simp only [spec_FitsField.l0]
    rw [if_pos (by omega), if_pos (by omega), rd_cast, spec_l1In_eq, Option.bind_some, wrap_up (n := xs.length) (by omega) (by omega), ih k (i + 1) (by omega) (by omega), drop_step xs 0 i (by omega)]
    unfold numsIn
    rw [List.all_cons]
    by_cases q : 0 ≤ nt 0 xs i ∧ nt 0 xs i ≤ top
    · rw [decide_eq_true q, if_pos rfl, Bool.true_and]
    · rw [decide_eq_false q, if_neg (by simp)]; simp
theorem spec_FitsField_eq {k : Nat} (x : Fd) (v : Va) (hl : v.f1.length ≤ 1048576) (hk : v.f1.length + 2 < k) : spec_FitsField.f k x.f0 x.f1 x.f2 x.f3 v.f0 v.f1 = some (fitsField x v) := by
  obtain ⟨k, rfl⟩ := succ_of hk
  unfold spec_FitsField.f fitsField
  have h : ∀ top, spec_FitsField.j0 (k + 1) top x.f0 x.f1 x.f2 x.f3 v.f0 v.f1 = some (decide (v.f0 = 0) && (decide ((v.f1.length : Int) ≤ x.f1) && numsIn v.f1 top)) := fun top => by
    simp only [spec_FitsField.j0]
    have := spec_FitsField_l0 (top := top) (a := x.f0) (b := x.f1) (c := x.f2) (d := x.f3) (n := v.f0) hl v.f1.length k 0 (by omega) (by omega)
    rwa [List.drop_zero] at this
  rw [spec_l1In_eq, Option.bind_some, inB_dec, h, h]
  by_cases h1 : x.f0 = 1
  · rw [if_pos h1, if_pos h1]
    by_cases b : inB v.f0 0 x.f1 = true
    · rw [if_pos b, b]; rfl
    · rw [if_neg b]; simp [b]
  · rw [if_neg h1, if_neg h1]
    by_cases h3 : x.f0 = 3
    · rw [if_pos h3, if_neg (by omega), if_pos h3]
    · rw [if_neg h3]
      by_cases h2 : x.f0 = 2
      · rw [if_pos h2, if_pos h2]
      · rw [if_neg h2, if_neg h2, if_neg h3]

/-! ### spec_FitsFormat -/
theorem spec_FitsFormat_eq {l : List Fd} {m : List Va} {k : Nat} (hl : l.length ≤ 1048576) (hm : m.length ≤ 1048576) (hv : ∀ i, (nt zVa m i).f1.length ≤ 1000) (hk : 3 * l.length + 1100 < k) : spec_FitsFormat.f k l m = some (fitsFormat l m) := by
  obtain ⟨k, rfl⟩ := succ_of hk
  unfold spec_FitsFormat.f fitsFormat
  rw [spec_IsFormat_eq hl (by omega), Option.bind_some]
  have hj : spec_FitsFormat.j0 (k + 1) l m true = some false := by simp only [spec_FitsFormat.j0, if_true]
  cases isFormat l with
  | false => rw [if_neg (by simp), hj]; rfl
  | true =>
    rw [if_pos rfl]
    by_cases e : l.length = m.length
    · have e' : ((m.length : Int) != (l.length : Int)) = false := by rw [bne_eq_false_iff_eq]; omega
      rw [e', decide_eq_true e]
      simp only [spec_FitsFormat.j0]
      rw [if_neg (by simp)]
      have h := all_loop (g := fun k i => spec_FitsFormat.l0 k l m (i : Int)) (n := l.length) (B := 1010) (ok := fitAt l m) (fin := true) (fun k => by
          simp only [spec_FitsFormat.l0]; rw [if_neg (by omega)])
        (fun k i hi hk => by
          have hvi := hv i
          simp only [spec_FitsFormat.l0]
          rw [if_pos (by omega), spec_IsThere_eq hl hm, rd_Fd, rd_Va, spec_FitsField_eq _ _ (by omega) (by omega), wrap_up (n := l.length) hi (by omega)]
          simp only [Option.bind_some]
          unfold fitAt
          by_cases q : isThere l m i = true
          · simp only [q, if_true]
            rw [if_pos (show (0 : Int) ≤ (i : Int) by omega), if_pos (show (i : Int) < (m.length : Int) by omega)]
          · simp only [q, Bool.false_eq_true, if_false]
            rw [if_pos (show (0 : Int) ≤ (i : Int) by omega), if_pos (show (i : Int) < (m.length : Int) by omega)]
            by_cases n0 : (nt zVa m i).f0 = 0
            · rw [if_pos n0, decide_eq_true n0]
              by_cases n1 : (nt zVa m i).f1.length = 0
              · rw [if_neg (by omega), decide_eq_true n1]; rfl
              · rw [if_pos (by omega), decide_eq_false n1]; rfl
            · rw [if_neg n0, decide_eq_false n0]; rfl) l.length k 0 (by omega) (by omega)
      simpa using h
    · have e' : ((m.length : Int) != (l.length : Int)) = true := by rw [bne_iff_ne]; omega
      rw [e', hj, decide_eq_false e]; rfl

/-! ### spec_EncodeMessage -/
theorem spec_EncodeMessage_l0 {l : List Fd} {m : List Va} (hl : l.length ≤ 1000) (hm : l.length = m.length) (hv : ∀ i, (nt zVa m i).f1.length ≤ 1000) : ∀ (d k i : Nat) (acc : List Int), i + d = l.length → acc.length ≤ 1001 * i → d < k → spec_EncodeMessage.l0 k l m acc (i : Int) = some (acc ++ encFrom l m d i, true) := by
  intro d
  induction d with
  | zero =>
    intro k i acc h ha hk
    obtain ⟨k, rfl⟩ := succ_of hk
    simp only [spec_EncodeMessage.l0]
    rw [if_neg (by omega)]; simp [encFrom]
  | succ d ih =>
    intro k i acc h ha hk
    obtain ⟨k, rfl⟩ := succ_of hk
    have hvi := hv i
    simp only [spec_EncodeMessage.l0, encFrom, encAt]
    rw [if_pos (by omega), spec_IsThere_eq (by omega) (by omega), Option.bind_some, rd_Fd, rd_Va, wrap_up (n := l.length) (by omega) (by omega)]
    by_cases q : isThere l m i = true
    · rw [if_pos q, if_pos q, if_pos (by omega)]
      by_cases q1 : (nt zFd l i).f0 = 1
      · rw [if_pos q1, if_pos q1, if_pos (by omega), if_pos (by omega), ih k (i + 1) _ (by omega) (by rw [List.length_append, List.length_singleton]; omega) (by omega), List.append_assoc]
      · rw [if_neg q1, if_neg q1, if_pos (by omega), if_pos (by omega), Option.bind_some, if_pos (by rw [List.length_append, List.length_singleton]; omega), ih k (i + 1) _ (by omega) (by rw [List.length_append, List.length_append, List.length_singleton]; omega) (by omega)]
        simp
    · rw [if_neg q, if_neg q, ih k (i + 1) _ (by omega) (by omega) (by omega)]; simp
theorem spec_EncodeMessage_eq {l : List Fd} {m : List Va} {k : Nat} (hl : l.length ≤ 1048576) (hm : m.length ≤ 1048576) (hv : ∀ i, (nt zVa m i).f1.length ≤ 1000) (hk : 3 * l.length + 1100 < k) : spec_EncodeMessage.f k l m = some (encodeMsg l m) := by
  unfold spec_EncodeMessage.f encodeMsg
  rw [Option.bind_some, spec_FitsFormat_eq hl hm hv hk, Option.bind_some]
  by_cases q : fitsFormat l m = true
  · obtain ⟨h1, h2, _⟩ := fits_items q
    have := (format_at h1).1
    rw [if_pos q, if_pos q]
    have h := spec_EncodeMessage_l0 (l := l) (m := m) (by omega) h2 hv l.length k 0 [] (by omega) (by simp) (by omega)
    simpa using h
  · rw [if_neg q, if_neg q]

/-! ### spec_MakeBytes -/
theorem spec_MakeBytes_eq {l : List Fd} {s : Int} {k : Nat} (hl : l.length ≤ 1048576) (hk : 3 * l.length + 1100 < k) : spec_MakeBytes.f k l s = some (makeBytes l s) := by
  unfold spec_MakeBytes.f makeBytes
  have := makeMsg_small l s
  rw [spec_MakeMessage_eq hl (by omega), Option.bind_some, spec_EncodeMessage_eq hl (by omega) (fun i => by have := makeMsg_items l s i; omega) hk, Option.bind_some]

/-! ### spec_l6Read -/
theorem spec_l6Read_eq {b : List Int} {a k : Nat} (x : Fd) (hb : b.length ≤ 1048576) (ha : a ≤ b.length) (hk : b.length + 2 < k) : spec_l6Read.f k x.f0 x.f1 x.f2 x.f3 b (a : Int) = some (match readVal x (b.drop a) with | none => (0, [], -1) | some (v, n) => (v.f0, v.f1, (a : Int) + (n : Int))) := by
  have hd : (b.drop a).length = b.length - a := List.length_drop
  unfold spec_l6Read.f readVal
  by_cases h0 : (b.drop a).length = 0
  · rw [if_pos (by omega), if_pos h0]
  · have hn : nt 0 (b.drop a) 0 = nt 0 b a := by
      rw [nt_lt _ _ _ (by omega), nt_lt _ _ _ (show a < b.length by omega)]; simp
    rw [if_neg (by omega), if_neg h0, if_pos (by omega), if_pos (by omega), hn, rd_cast]
    obtain ⟨h, hh⟩ : ∃ h, h = nt 0 b a := ⟨_, rfl⟩
    rw [← hh]
    by_cases h1 : x.f0 = 1
    · rw [if_pos h1, if_pos h1, spec_FitsField_eq x ⟨h, []⟩ (by simp) (by simp; omega), Option.bind_some]
      by_cases q : fitsField x ⟨h, []⟩ = true
      · rw [if_pos q, if_pos q, wrap_id (by omega) (by omega)]; rfl
      · rw [if_neg q, if_neg q]
    · rw [if_neg h1, if_neg h1, spec_l1In_eq, Option.bind_some, wrap_id (x := (b.length : Int) - a) (by omega) (by omega), wrap_id (x := (b.length : Int) - a - 1) (by omega) (by omega), hd]
      by_cases q : 0 ≤ h ∧ h ≤ (b.length : Int) - a - 1
      · have hl2 : (((b.drop a).drop 1).take h.toNat).length = h.toNat := by rw [List.length_take, List.length_drop, hd]; omega
        have ht : (b.take ((a : Int) + 1 + h).toNat).drop ((a : Int) + 1).toNat = ((b.drop a).drop 1).take h.toNat := by
          rw [List.drop_take, List.drop_drop, show ((a : Int) + 1 + h).toNat - ((a : Int) + 1).toNat = h.toNat by omega, show ((a : Int) + 1).toNat = a + 1 by omega]
        rw [if_pos (by simpa using q), if_pos (show 0 ≤ h ∧ h ≤ ((b.length - a : Nat) : Int) - 1 by omega), Option.bind_some, wrap_id (x := (a : Int) + 1) (by omega) (by omega), wrap_id (x := (a : Int) + 1 + h) (by omega) (by omega), if_pos (by omega), if_pos (by omega), if_pos (by omega), ht, if_pos (by rw [hl2, List.length_nil]; omega), Option.bind_some, List.nil_append, spec_FitsField_eq x ⟨0, ((b.drop a).drop 1).take h.toNat⟩ (by rw [hl2]; omega) (by rw [hl2]; omega), Option.bind_some]
        by_cases f : fitsField x ⟨0, ((b.drop a).drop 1).take h.toNat⟩ = true
        · rw [if_pos f, if_pos f]
          show some (_, _, _) = some (_, _, _)
          rw [show (a : Int) + ((1 + h.toNat : Nat) : Int) = (a : Int) + 1 + h by omega]
        · rw [if_neg f, if_neg f]
      · rw [if_neg (by simpa using q), if_neg (show ¬ (0 ≤ h ∧ h ≤ ((b.length - a : Nat) : Int) - 1) by omega)]

/-! ### spec_ReadPrefix -/
theorem spec_ReadPrefix_l0 {l : List Fd} {b : List Int} (hl : l.length ≤ 1000) (hb : b.length ≤ 1048576) : ∀ (d k i a : Nat) (acc : List Va), i + d = l.length → acc.length = i → a ≤ b.length → b.length + 4 + d < k → spec_ReadPrefix.l0 k l b acc (a : Int) (i : Int) = some (match rdFrom l b d acc a i with | none => ([], -1) | some (m, a) => (m, (a : Int))) := by
  intro d
  induction d with
  | zero =>
    intro k i a acc h ha hab hk
    obtain ⟨k, rfl⟩ := succ_of hk
    simp only [spec_ReadPrefix.l0, rdFrom]
    rw [if_neg (by omega)]
  | succ d ih =>
    intro k i a acc h ha hab hk
    obtain ⟨k, rfl⟩ := succ_of hk
    simp only [spec_ReadPrefix.l0, rdFrom]
    rw [if_pos (by omega), spec_IsThere_eq (by omega) (by omega), Option.bind_some, rd_Fd, wrap_up (n := l.length) (by omega) (by omega)]
    by_cases q : isThere l acc i = true
    · rw [if_pos q, if_pos q, if_pos (by omega), spec_l6Read_eq (nt zFd l i) hb hab (by omega), Option.bind_some]
      cases hv : readVal (nt zFd l i) (b.drop a) with
      | none =>
        dsimp only
        rw [if_pos (by omega)]
      | some p =>
        obtain ⟨v, n⟩ := p
        have hn := readVal_len hv
        rw [List.length_drop] at hn
        dsimp only
        rw [if_neg (by omega), if_pos (by omega), show (a : Int) + (n : Int) = ((a + n : Nat) : Int) by omega]
        exact ih k (i + 1) (a + n) _ (by omega) (by rw [List.length_append, List.length_singleton]; omega) (by omega) (by omega)
    · rw [if_neg q, if_neg q, if_pos (by omega)]
      exact ih k (i + 1) a _ (by omega) (by rw [List.length_append, List.length_singleton]; omega) hab (by omega)
theorem spec_ReadPrefix_eq {l : List Fd} {b : List Int} {k : Nat} (hl : l.length ≤ 1048576) (hb : b.length ≤ 1048576) (hk : 3 * l.length + b.length + 20 < k) : spec_ReadPrefix.f k l b = some (readPrefix l b) := by
  unfold spec_ReadPrefix.f readPrefix
  rw [Option.bind_some, spec_IsFormat_eq hl (by omega), Option.bind_some]
  by_cases q : isFormat l = true
  · have h6 := (format_at q).1
    rw [if_pos q, if_pos q]
    exact spec_ReadPrefix_l0 (by omega) hb l.length k 0 0 [] (by omega) rfl (by omega) (by omega)
  · rw [if_neg q, if_neg q]

/-! ### spec_EqualInts -/
theorem spec_EqualInts_l0 (a b : List Int) (hl : a.length ≤ 9223372036854775807) (he : b.length = a.length) : ∀ (d k i : Nat), i + d = a.length → d < k → spec_EqualInts.l0 k a b (i : Int) = some (decide (a.drop i = b.drop i)) := by
  intro d
  induction d with
  | zero =>
    intro k i h hk
    obtain ⟨k, rfl⟩ := succ_of hk
    obtain rfl : i = a.length := by omega
    simp only [spec_EqualInts.l0]; rw [if_neg (by omega), drop_end, ← he, drop_end, decide_eq_true rfl]
  | succ d ih =>
    intro k i h hk
    obtain ⟨k, rfl⟩ := succ_of hk
    simp only [spec_EqualInts.l0]
    rw [if_pos (by omega), if_pos (by omega), if_pos (by omega), wrap_up (n := a.length) (by omega) hl, rd_cast, rd_cast, drop_step a 0 i (by omega), drop_step b 0 i (by omega), ih k (i + 1) (by omega) (by omega)]
    by_cases e : nt 0 a i = nt 0 b i
    · rw [if_pos e, e]; simp
    · rw [if_neg e]; simp [e]
theorem spec_EqualInts_eq {a b : List Int} {k : Nat} (hl : a.length ≤ 9223372036854775807) (hk : a.length < k) : spec_EqualInts.f k a b = some (decide (a = b)) := by
  unfold spec_EqualInts.f
  by_cases e : a.length = b.length
  · rw [if_pos (by omega)]
    exact spec_EqualInts_l0 a b hl e.symm a.length k 0 (by omega) hk
  · rw [if_neg (by omega), decide_eq_false (fun h => e (by rw [h]))]
theorem spec_EqualInts_self {a : List Int} {k : Nat} (hl : a.length ≤ 9223372036854775807) (hk : a.length < k) : spec_EqualInts.f k a a = some true := by
  rw [spec_EqualInts_eq hl hk, decide_eq_true rfl]

/-! ### spec_EqualMessages -/
theorem spec_EqualMessages_eq {a b : List Va} {k : Nat} (hl : a.length ≤ 1048576) (hm : ∀ v ∈ a, v.f1.length ≤ 1048576) (hk : 2100000 < k) : spec_EqualMessages.f k a b = some (eqMsgs a b) := by
  unfold spec_EqualMessages.f eqMsgs
  by_cases e : a.length = b.length
  · rw [if_pos (by omega), decide_eq_true e]
    have h := all_loop (g := fun k i => spec_EqualMessages.l0 k a b (i : Int)) (n := a.length) (B := 1048577) (ok := fun i => sameVa (nt zVa a i) (nt zVa b i)) (fin := true) (fun k => by
        simp only [spec_EqualMessages.l0]; rw [if_neg (by omega)])
      (fun k i hi hk => by
        have hx := hm _ (nt_mem zVa a i hi)
        simp only [spec_EqualMessages.l0]
        rw [if_pos (by omega), if_pos (by omega), if_pos (by omega), rd_Va, rd_Va, wrap_up (n := a.length) hi (by omega), spec_EqualInts_eq (by omega) (by omega), Option.bind_some]
        unfold sameVa
        by_cases h1 : (nt zVa a i).f0 = (nt zVa b i).f0
        · rw [if_pos h1]; simp [h1]
        · rw [if_neg h1, if_neg (by simp [h1])]) a.length k 0 (by omega) (by omega)
    simpa using h
  · rw [if_neg (by omega), decide_eq_false e]; rfl

/-! ### spec_SkipsTail -/
theorem spec_SkipsTail_eq {l m : List Fd} {s : Int} {k : Nat} (hl : l.length ≤ 1048576) (hm : m.length ≤ 1048576) (hk : 4200000 < k) : spec_SkipsTail.f k l m s = some (skipsTail l m s) := by
  have hb := makeBytes_length m s
  have hi := readPrefix_items l (makeBytes m s)
  have hs := makeMsg_small m s
  have hr := readPrefix_most l (makeBytes m s)
  unfold spec_SkipsTail.f skipsTail
  rw [spec_MakeBytes_eq hm (by omega), Option.bind_some, spec_ReadPrefix_eq hl (by omega) (by omega), Option.bind_some, spec_MakeMessage_eq hm (by omega), Option.bind_some]
  by_cases q : (readPrefix l (makeBytes m s)).2 ≥ 0
  · rw [if_pos q]
    by_cases q2 : (makeMsg m s).length ≥ (readPrefix l (makeBytes m s)).1.length
    · rw [if_pos (by omega), if_pos (by omega), if_pos (by omega), if_pos ⟨q, q2⟩, toNat_cast, spec_EqualMessages_eq (by omega) (fun v hv => by have := hi v hv; omega) (by omega), Option.bind_some]
    · rw [if_neg (by omega), if_neg (fun h => q2 h.2)]
  · rw [if_neg q, if_neg (fun h => q h.1)]

end FnExactSkipsTailAid
open FnExactSkipsTailAid

theorem FnExactSkipsTail : laws_FnExactSkipsTail.Pure := by
  intro l m n hl _ hm _ _
  obtain ⟨k, hk⟩ : ∃ k, k = 12000000 := ⟨_, rfl⟩
  refine ⟨k, ?_⟩
  unfold laws_FnExactSkipsTail.f
  rw [laws_szFieldS_eq (by omega) (by omega) hl, Option.bind_some]
  by_cases hb : (1048576 : Int) < l.length
  · rw [if_pos hb, if_pos (by omega)]
  · rw [if_neg hb, if_neg (by omega), laws_szFieldS_eq (by omega) (by omega) hm, Option.bind_some]
    by_cases hc : (1048576 : Int) - l.length < m.length
    · rw [if_pos hc, if_pos (by omega)]
    · rw [if_neg hc, if_neg (by omega)]
      obtain ⟨L, hL⟩ : ∃ L, L = l.map convFd := ⟨_, rfl⟩
      obtain ⟨M, hM⟩ : ∃ M, M = m.map convFd := ⟨_, rfl⟩
      have lL : L.length = l.length := by rw [hL]; exact List.length_map ..
      have lM : M.length = m.length := by rw [hM]; exact List.length_map ..
      have f1 : laws_toFieldS.f k l = some L := by rw [laws_toFieldS_eq (by omega) (by omega), hL]
      have f2 : laws_toFieldS.f k m = some M := by rw [laws_toFieldS_eq (by omega) (by omega), hM]
      have f3 : spec_SkipsTail.f k L M n = some (skipsTail L M n) := spec_SkipsTail_eq (by omega) (by omega) (by omega)
      have f4 : impl_SkipsTail.f k L M n = some (skipsTail L M n) := impl_SkipsTail_eq (by omega) (by omega) (by omega)
      have f5 : laws_eqFieldS.f k L L = some true := laws_eqFieldS_self (by omega) (by omega)
      have f6 : laws_eqFieldS.f k M M = some true := laws_eqFieldS_self (by omega) (by omega)
      simp only [f1, f2, f3, f4, f5, f6, Option.bind_some, Bool.false_eq_true, if_true, if_false, ↓reduceIte, bne_self_eq_false, Bool.not_true, Bool.not_false, Nat.le_add_right, Nat.le_refl]

end Go.Proofs.Yticpmgofegaaeaa.Pure
