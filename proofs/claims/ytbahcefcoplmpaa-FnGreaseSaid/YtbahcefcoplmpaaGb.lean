/- Plain lemmas on whole numbers, lists and rounds that the pure parts of this seat's proofs use; no program in sight. -/
import Derived.Test.YtbahcefcoplmpaaWWords
import Derived.Test.YtbahcefcoplmpaaWSized
/-- The printed rows name this word so. -/
abbrev Go.Proofs.Ytbahcefcoplmpaa.PrintWords.sized_ints := @Go.Proofs.YtbahcefcoplmpaaW.PrintWords.sized_ints

set_option linter.unusedSimpArgs false
set_option linter.unusedVariables false

namespace Go.Proofs.Ytbahcefcoplmpaa.Gb
open Go.RowKit Go.Proofs.YtbahcefcoplmpaaW.PrintWords

theorem wrap_id {x : Int} (h0 : -9223372036854775808 ≤ x) (h1 : x ≤ 9223372036854775807) : wrap64 x = x := by
  unfold wrap64; omega
theorem wrap_up {i n : Nat} (h : i < n) (hn : n ≤ 9223372036854775807) : wrap64 ((i : Int) + 1) = ((i + 1 : Nat) : Int) := by
  rw [wrap_id (by omega) (by omega)]; omega
theorem wrap_dn {i : Nat} (h : 0 < i) (hn : i ≤ 9223372036854775807) : wrap64 ((i : Int) - 1) = ((i - 1 : Nat) : Int) := by
  rw [wrap_id (by omega) (by omega)]; omega
/-- Element i, or z. -/
def nt {α : Type} (z : α) (l : List α) (i : Nat) : α := l.getD i z
theorem rd_cast (xs : List Int) (i : Nat) : rd xs (i : Int) = nt 0 xs i := by simp [rd, nt]
theorem rdOf_cast {α : Type} (z : α) (xs : List α) (i : Nat) : rdOf z xs (i : Int) = nt z xs i := by simp [rdOf, nt]
theorem toNat_cast (i : Nat) : ((i : Int)).toNat = i := Int.toNat_natCast i
theorem max_len {n : Nat} (h : n ≤ maxLen) : n ≤ 9223372036854775807 := h
theorem succ_of {k d : Nat} (h : d < k) : ∃ m, k = m + 1 := ⟨k - 1, by omega⟩

section
variable {α : Type}
/-- A row that is copied element by element into a made one. -/
theorem set_grow (l : List α) (z : α) (i : Nat) (h : i < l.length) : (l.take i ++ List.replicate (l.length - i) z).set i (nt z l i) = l.take (i + 1) ++ List.replicate (l.length - (i + 1)) z := by
  have hl : (l.take i).length = i := by rw [List.length_take]; omega
  rw [List.set_append_right _ _ (by omega), hl, Nat.sub_self, show l.length - i = (l.length - (i + 1)) + 1 by omega, List.replicate_succ, List.set_cons_zero]
  rw [List.take_succ_eq_append_getElem h, List.append_assoc, List.singleton_append, nt, List.getD_eq_getElem?_getD, List.getElem?_eq_getElem h, Option.getD_some]
theorem take_all (l : List α) (z : α) : l.take l.length ++ List.replicate (l.length - l.length) z = l := by simp
theorem take_none (l : List α) (z : α) : l.take 0 ++ List.replicate (l.length - 0) z = List.replicate l.length z := by simp
theorem nt_lt (l : List α) (z : α) (i : Nat) (h : i < l.length) : nt z l i = l[i] := by
  rw [nt, List.getD_eq_getElem?_getD, List.getElem?_eq_getElem h, Option.getD_some]
theorem drop_step (l : List α) (z : α) (i : Nat) (h : i < l.length) : l.drop i = nt z l i :: l.drop (i + 1) := by
  rw [nt_lt l z i h]; exact List.drop_eq_getElem_cons h
theorem take_step (l : List α) (z : α) (i : Nat) (h : i < l.length) : l.take (i + 1) = l.take i ++ [nt z l i] := by
  rw [nt_lt l z i h]; exact List.take_succ_eq_append_getElem h
theorem drop_end (l : List α) : l.drop l.length = [] := List.drop_length
end

/-- 'ok' holds at i, i+1, .., i+d-1. -/
def allFrom (ok : Nat → Bool) : Nat → Nat → Bool
  | _, 0 => true
  | i, d + 1 => ok i && allFrom ok (i + 1) d
theorem allFrom_iff (ok : Nat → Bool) : ∀ (d i : Nat), allFrom ok i d = true ↔ ∀ j, i ≤ j → j < i + d → ok j = true
  | 0, i => by simp [allFrom]; omega
  | d + 1, i => by
    simp only [allFrom, Bool.and_eq_true, allFrom_iff ok d (i + 1)]
    constructor
    · rintro ⟨h0, h1⟩ j hj hlt
      by_cases e : j = i
      · rw [e]; exact h0
      · exact h1 j (by omega) (by omega)
    · intro h
      exact ⟨h i (by omega) (by omega), fun j hj hlt => h j (by omega) (by omega)⟩
/-- A loop over i .. n-1 that answers false where 'ok' fails, and 'fin' at its end. B: rounds that the body wants. -/
theorem all_loop {g : Nat → Nat → Option Bool} {n B : Nat} {ok : Nat → Bool} {fin : Bool} (stop : ∀ k, g (k + 1) n = some fin)
    (step : ∀ k i, i < n → B ≤ k → g (k + 1) i = if ok i = true then g k (i + 1) else some false) :
    ∀ (d k i : Nat), i + d = n → B + d < k → g k i = some (allFrom ok i d && fin) := by
  intro d
  induction d with
  | zero =>
    intro k i h hk
    obtain ⟨k, rfl⟩ := succ_of hk
    obtain rfl : i = n := by omega
    rw [stop]; rfl
  | succ d ih =>
    intro k i h hk
    obtain ⟨k, rfl⟩ := succ_of hk
    rw [step k i (by omega) (by omega)]
    cases e : ok i with
    | true => rw [if_pos rfl, ih k (i + 1) (by omega) (by omega)]; simp [allFrom, e]
    | false => rw [if_neg (by simp)]; simp [allFrom, e]
/-- The same, where the end itself wants rounds. -/
theorem all_loop2 {g : Nat → Nat → Option Bool} {n B : Nat} {ok : Nat → Bool} {fin : Bool} (stop : ∀ k, B ≤ k → g (k + 1) n = some fin)
    (step : ∀ k i, i < n → B ≤ k → g (k + 1) i = if ok i = true then g k (i + 1) else some false) :
    ∀ (d k i : Nat), i + d = n → B + d < k → g k i = some (allFrom ok i d && fin) := by
  intro d
  induction d with
  | zero =>
    intro k i h hk
    obtain ⟨k, rfl⟩ := succ_of hk
    obtain rfl : i = n := by omega
    rw [stop k (by omega)]; rfl
  | succ d ih =>
    intro k i h hk
    obtain ⟨k, rfl⟩ := succ_of hk
    rw [step k i (by omega) (by omega)]
    cases e : ok i with
    | true => rw [if_pos rfl, ih k (i + 1) (by omega) (by omega)]; simp [allFrom, e]
    | false => rw [if_neg (by simp)]; simp [allFrom, e]
/-- A loop inside a loop: at its end the outer one goes on with what rounds are left. -/
theorem inner_loop {ρ : Type} {g : Nat → Nat → Option ρ} {n : Nat} {ok : Nat → Bool} {cont : Nat → Option ρ} {bad : ρ} (stop : ∀ k, g (k + 1) n = cont k)
    (step : ∀ k i, i < n → g (k + 1) i = if ok i = true then g k (i + 1) else some bad) :
    ∀ (d k i : Nat), i + d = n → d < k → g k i = if allFrom ok i d = true then cont (k - d - 1) else some bad := by
  intro d
  induction d with
  | zero =>
    intro k i h hk
    obtain ⟨k, rfl⟩ := succ_of hk
    obtain rfl : i = n := by omega
    rw [stop]; simp [allFrom]
  | succ d ih =>
    intro k i h hk
    obtain ⟨k, rfl⟩ := succ_of hk
    rw [step k i (by omega)]
    cases e : ok i with
    | true => rw [if_pos rfl, ih k (i + 1) (by omega) (by omega), show k + 1 - (d + 1) - 1 = k - d - 1 by omega]; simp [allFrom, e]
    | false => rw [if_neg (by simp)]; simp [allFrom, e]
/-- The same, where a round takes c rounds of the count. -/
theorem all_loopC {g : Nat → Nat → Option Bool} {n : Nat} (c : Nat) {ok : Nat → Bool} {fin : Bool} (stop : ∀ k, g (k + 1) n = some fin)
    (step : ∀ k i, i < n → g (k + c) i = if ok i = true then g k (i + 1) else some false) :
    ∀ (d k i : Nat), i + d = n → c * d < k → g k i = some (allFrom ok i d && fin) := by
  intro d
  induction d with
  | zero =>
    intro k i h hk
    obtain ⟨k, rfl⟩ := succ_of hk
    obtain rfl : i = n := by omega
    rw [stop]; rfl
  | succ d ih =>
    intro k i h hk
    rw [Nat.mul_succ] at hk
    obtain ⟨k, rfl⟩ : ∃ m, k = m + c := ⟨k - c, by omega⟩
    rw [step k i (by omega)]
    cases e : ok i with
    | true => rw [if_pos rfl, ih k (i + 1) (by omega) (by omega)]; simp [allFrom, e]
    | false => rw [if_neg (by simp)]; simp [allFrom, e]
/-- A loop over i .. n-1 that carries a state and never stops early. -/
def foldFrom {σ : Type} (f : Nat → σ → σ) : Nat → Nat → σ → σ
  | _, 0, s => s
  | i, d + 1, s => foldFrom f (i + 1) d (f i s)
theorem fold_loop {σ ρ : Type} {g : Nat → σ → Nat → Option ρ} {n B : Nat} {f : Nat → σ → σ} {fin : σ → ρ} (Inv : Nat → σ → Prop) (stop : ∀ k s, Inv n s → g (k + 1) s n = some (fin s))
    (step : ∀ k i s, i < n → B ≤ k → Inv i s → g (k + 1) s i = g k (f i s) (i + 1) ∧ Inv (i + 1) (f i s)) :
    ∀ (d k i : Nat) (s : σ), i + d = n → B + d < k → Inv i s → g k s i = some (fin (foldFrom f i d s)) := by
  intro d
  induction d with
  | zero =>
    intro k i s h hk hi
    obtain ⟨k, rfl⟩ := succ_of hk
    obtain rfl : i = n := by omega
    rw [stop k s hi]; rfl
  | succ d ih =>
    intro k i s h hk hi
    obtain ⟨k, rfl⟩ := succ_of hk
    obtain ⟨h1, h2⟩ := step k i s (by omega) (by omega) hi
    rw [h1, ih k (i + 1) (f i s) (by omega) (by omega) h2]; rfl

theorem foldFrom_drop {α σ : Type} {f : σ → α → σ} (l : List α) (z : α) : ∀ (d i : Nat) (s : σ), i + d = l.length → foldFrom (fun i s => f s (nt z l i)) i d s = (l.drop i).foldl f s
  | 0, i, s, h => by obtain rfl : i = l.length := by omega
                     rw [drop_end]; rfl
  | d + 1, i, s, h => by rw [foldFrom, foldFrom_drop l z d (i + 1) _ (by omega), drop_step l z i (by omega), List.foldl_cons]
theorem foldFrom_list {α σ : Type} {f : σ → α → σ} {l : List α} {z : α} {s : σ} : foldFrom (fun i s => f s (nt z l i)) 0 l.length s = l.foldl f s := by
  rw [foldFrom_drop l z l.length 0 s (by omega), List.drop_zero]
/-- A loop that goes through. -/
theorem pass_loop {ρ : Type} {g : Nat → Nat → Option ρ} {n B : Nat} {r : ρ} (stop : ∀ k, g (k + 1) n = some r) (step : ∀ k i, i < n → B ≤ k → g (k + 1) i = g k (i + 1)) : ∀ (d k i : Nat), i + d = n → B + d < k → g k i = some r := by
  intro d
  induction d with
  | zero =>
    intro k i h hk
    obtain ⟨k, rfl⟩ := succ_of hk
    obtain rfl : i = n := by omega
    exact stop k
  | succ d ih =>
    intro k i h hk
    obtain ⟨k, rfl⟩ := succ_of hk
    rw [step k i (by omega) (by omega)]
    exact ih k (i + 1) (by omega) (by omega)
/-- A loop that fills a made row with what f makes of each element. -/
theorem map_loop {α β : Type} {g : Nat → List β → Nat → Option (List β)} {l : List α} {z : α} {zb : β} {f : α → β} {B : Nat} (stop : ∀ k acc, acc.length = l.length → g (k + 1) acc l.length = some acc)
    (step : ∀ k i acc, i < l.length → B ≤ k → acc.length = l.length → g (k + 1) acc i = g k (acc.set i (f (nt z l i))) (i + 1)) :
    ∀ (d k i : Nat), i + d = l.length → B + d < k → g k ((l.take i).map f ++ List.replicate (l.length - i) zb) i = some (l.map f) := by
  intro d
  induction d with
  | zero =>
    intro k i h hk
    obtain ⟨k, rfl⟩ := succ_of hk
    obtain rfl : i = l.length := by omega
    rw [List.take_length, Nat.sub_self, List.replicate_zero, List.append_nil]
    exact stop k _ (by simp)
  | succ d ih =>
    intro k i h hk
    obtain ⟨k, rfl⟩ := succ_of hk
    have hl : ((l.take i).map f).length = i := by rw [List.length_map, List.length_take]; omega
    rw [step k i _ (by omega) (by omega) (by rw [List.length_append, hl, List.length_replicate]; omega), List.set_append_right _ _ (by omega), hl, Nat.sub_self, show l.length - i = (l.length - (i + 1)) + 1 by omega, List.replicate_succ, List.set_cons_zero]
    have e : (l.take i).map f ++ f (nt z l i) :: List.replicate (l.length - (i + 1)) zb = (l.take (i + 1)).map f ++ List.replicate (l.length - (i + 1)) zb := by
      rw [take_step l z i (by omega), List.map_append, List.append_assoc]; rfl
    rw [e]
    exact ih k (i + 1) (by omega) (by omega)
/-- A loop that looks for the first element with p; it answers 'hit' of its place, or 'miss'. -/
theorem find_loop {α ρ : Type} {g : Nat → Nat → Option ρ} {l : List α} {z : α} {B : Nat} {p : α → Bool} {hit : Nat → ρ} {miss : ρ} (stop : ∀ k, g (k + 1) l.length = some miss)
    (step : ∀ k i, i < l.length → B ≤ k → g (k + 1) i = if p (nt z l i) = true then some (hit i) else g k (i + 1)) :
    ∀ (d k i : Nat), i + d = l.length → B + d < k → g k i = some (((l.drop i).findIdx? p).elim miss fun j => hit (i + j)) := by
  intro d
  induction d with
  | zero =>
    intro k i h hk
    obtain ⟨k, rfl⟩ := succ_of hk
    obtain rfl : i = l.length := by omega
    rw [stop, drop_end]; rfl
  | succ d ih =>
    intro k i h hk
    obtain ⟨k, rfl⟩ := succ_of hk
    rw [step k i (by omega) (by omega), drop_step l z i (by omega), List.findIdx?_cons]
    cases e : p (nt z l i) with
    | true => rw [if_pos rfl]; rfl
    | false =>
      rw [if_neg (by simp), ih k (i + 1) (by omega) (by omega)]
      cases (l.drop (i + 1)).findIdx? p with
      | none => rfl
      | some j => simp [Nat.add_comm 1 j, Nat.add_assoc]
/-- .. and the answer is only whether there is one. -/
theorem any_loop {α : Type} {g : Nat → Nat → Option Bool} {l : List α} {z : α} {B : Nat} {p : α → Bool} (stop : ∀ k, g (k + 1) l.length = some false)
    (step : ∀ k i, i < l.length → B ≤ k → g (k + 1) i = if p (nt z l i) = true then some true else g k (i + 1)) :
    ∀ (d k i : Nat), i + d = l.length → B + d < k → g k i = some ((l.drop i).any p) := by
  intro d
  induction d with
  | zero =>
    intro k i h hk
    obtain ⟨k, rfl⟩ := succ_of hk
    obtain rfl : i = l.length := by omega
    rw [stop, drop_end]; rfl
  | succ d ih =>
    intro k i h hk
    obtain ⟨k, rfl⟩ := succ_of hk
    rw [step k i (by omega) (by omega), drop_step l z i (by omega), List.any_cons]
    cases e : p (nt z l i) with
    | true => rw [if_pos rfl]; rfl
    | false => rw [if_neg (by simp), ih k (i + 1) (by omega) (by omega)]; simp
/-- A loop that keeps the elements with p, each turned by f. -/
theorem filter_loop {α β : Type} {g : Nat → List β → Nat → Option (List β)} {l : List α} {z : α} {B : Nat} {p : α → Bool} {f : α → β} (stop : ∀ k acc, g (k + 1) acc l.length = some acc)
    (step : ∀ k i acc, i < l.length → B ≤ k → acc.length ≤ i → g (k + 1) acc i = if p (nt z l i) = true then g k (acc ++ [f (nt z l i)]) (i + 1) else g k acc (i + 1)) :
    ∀ (d k i : Nat) (acc : List β), i + d = l.length → B + d < k → acc.length ≤ i → g k acc i = some (acc ++ ((l.drop i).filter p).map f) := by
  intro d
  induction d with
  | zero =>
    intro k i acc h hk _
    obtain ⟨k, rfl⟩ := succ_of hk
    obtain rfl : i = l.length := by omega
    rw [stop, drop_end]; simp
  | succ d ih =>
    intro k i acc h hk ha
    obtain ⟨k, rfl⟩ := succ_of hk
    rw [step k i acc (by omega) (by omega) ha, drop_step l z i (by omega)]
    cases e : p (nt z l i) with
    | true => rw [if_pos rfl, ih k (i + 1) _ (by omega) (by omega) (by rw [List.length_append, List.length_singleton]; omega), List.filter_cons, if_pos e, List.map_cons, List.append_assoc, List.singleton_append]
    | false => rw [if_neg (by simp), ih k (i + 1) _ (by omega) (by omega) (by omega), List.filter_cons, if_neg (by simp [e])]

theorem idx_any {α : Type} (p : α → Bool) (l : List α) : decide (((l.findIdx? p).elim (-1 : Int) fun j => (j : Int)) ≥ 0) = l.any p := by
  cases e : l.findIdx? p with
  | none =>
    rw [List.findIdx?_eq_none_iff] at e
    have : l.any p = false := by rw [List.any_eq_false]; intro x hx; simp [e x hx]
    rw [this]; rfl
  | some j =>
    obtain ⟨h1, h2, _⟩ := List.findIdx?_eq_some_iff_getElem.1 e
    have : l.any p = true := List.any_eq_true.2 ⟨l[j], List.getElem_mem h1, h2⟩
    rw [this]; simp

/-- a, a + 1, .. -/
def seqFrom (a : Int) : Nat → List Int
  | 0 => []
  | n + 1 => a :: seqFrom (a + 1) n
theorem seqFrom_length (a : Int) (n : Nat) : (seqFrom a n).length = n := by
  induction n generalizing a with
  | zero => rfl
  | succ n ih => simp [seqFrom, ih]
theorem seqFrom_snoc (a : Int) (n : Nat) : seqFrom a (n + 1) = seqFrom a n ++ [a + n] := by
  induction n generalizing a with
  | zero => simp [seqFrom]
  | succ n ih => rw [seqFrom, ih (a + 1)]; simp [seqFrom]; omega
theorem nt_seq (a : Int) : ∀ (n i : Nat), i < n → nt 0 (seqFrom a n) i = a + i := by
  intro n
  induction n generalizing a with
  | zero => intro i h; omega
  | succ n ih =>
    intro i h
    cases i with
    | zero => simp [seqFrom, nt]
    | succ i =>
      have h2 := ih (a + 1) i (by omega)
      have h3 : nt 0 (seqFrom a (n + 1)) (i + 1) = nt 0 (seqFrom (a + 1) n) i := by simp [seqFrom, nt]
      rw [h3, h2]; omega
/-- A row, element by element turned to its mark. -/
theorem set_mark {α : Type} (l : List α) (done : List α) (x : α) (i : Nat) (hd : done.length = i) (h : i < l.length) : (done ++ l.drop i).set i x = (done ++ [x]) ++ l.drop (i + 1) := by
  rw [List.set_append_right _ _ (by omega), hd, Nat.sub_self, List.drop_eq_getElem_cons h, List.set_cons_zero, List.append_assoc, List.singleton_append]

theorem set_mid {α : Type} (done r : List α) (x y : α) (i : Nat) (hd : done.length = i) : ((done ++ [x]) ++ r).set i y = (done ++ [y]) ++ r := by
  rw [List.append_assoc, List.append_assoc, List.set_append_right _ _ (by omega), hd, Nat.sub_self]; rfl
theorem nt_mid {α : Type} (z : α) (done r : List α) (x : α) (i : Nat) (hd : done.length = i) : nt z ((done ++ [x]) ++ r) i = x := by
  unfold nt
  rw [List.getD_eq_getElem?_getD, List.append_assoc, List.getElem?_append_right (by omega), hd, Nat.sub_self]; rfl
theorem nt_cons_succ {α : Type} (z x : α) (r : List α) (i : Nat) : nt z (x :: r) (i + 1) = nt z r i := by simp [nt]
theorem nt_cons_zero {α : Type} (z x : α) (r : List α) : nt z (x :: r) 0 = x := by simp [nt]
theorem idx_elim_nonneg {α : Type} (p : α → Bool) (l : List α) (z : α) : ((l.findIdx? p).elim (-1 : Int) fun j => (j : Int)) < 0 ∧ l.any p = false ∨ ∃ j : Nat, ((l.findIdx? p).elim (-1 : Int) fun j => (j : Int)) = j ∧ j < l.length ∧ p (nt z l j) = true ∧ l.any p = true := by
  cases e : l.findIdx? p with
  | none =>
    rw [List.findIdx?_eq_none_iff] at e
    exact .inl ⟨by simp, by rw [List.any_eq_false]; intro x hx; simp [e x hx]⟩
  | some j =>
    obtain ⟨h1, h2, _⟩ := List.findIdx?_eq_some_iff_getElem.1 e
    exact .inr ⟨j, rfl, h1, by rw [nt_lt _ _ _ h1]; exact h2, List.any_eq_true.2 ⟨l[j], List.getElem_mem h1, h2⟩⟩

theorem nt_mem {α : Type} (z : α) (l : List α) (i : Nat) (h : i < l.length) : nt z l i ∈ l := by rw [nt_lt _ _ _ h]; exact List.getElem_mem h
theorem nt_at {α : Type} (z : α) (done r : List α) (x : α) : nt z (done ++ x :: r) done.length = x := by
  unfold nt
  rw [List.getD_eq_getElem?_getD, List.getElem?_append_right (by omega), Nat.sub_self]; rfl
theorem set_at {α : Type} (done r : List α) (x y : α) : (done ++ x :: r).set done.length y = (done ++ [y]) ++ r := by
  rw [List.set_append_right _ _ (by omega), Nat.sub_self, List.append_assoc]; rfl
theorem len_at {α : Type} (done r : List α) (x : α) : (done ++ x :: r).length = done.length + r.length + 1 := by rw [List.length_append, List.length_cons]; omega
theorem len_snoc {α : Type} (done : List α) (x : α) : (done ++ [x]).length = done.length + 1 := by simp

theorem allFrom_all {α : Type} (p : α → Bool) (z : α) (l : List α) : allFrom (fun i => p (nt z l i)) 0 l.length = l.all p := by
  rw [Bool.eq_iff_iff, allFrom_iff, List.all_eq_true]
  constructor
  · intro h x hx
    obtain ⟨j, hj, rfl⟩ := List.mem_iff_getElem.1 hx
    have := h j (by omega) (by omega)
    rwa [nt_lt _ _ _ hj] at this
  · intro h j _ hj
    exact h _ (nt_mem z l j (by omega))
theorem allFrom_congr {f g : Nat → Bool} : ∀ (d i : Nat), (∀ j, i ≤ j → j < i + d → f j = g j) → allFrom f i d = allFrom g i d
  | 0, _, _ => rfl
  | d + 1, i, h => by rw [allFrom, allFrom, h i (by omega) (by omega), allFrom_congr d (i + 1) (fun j h1 h2 => h j (by omega) (by omega))]

/-- A loop that keeps the elements with p, each turned by f, and goes on with what it has. -/
theorem filter_loopC {α β ρ : Type} {g : Nat → List β → Nat → Option ρ} {l : List α} {z : α} {B : Nat} {p : α → Bool} {f : α → β} {fin : List β → Option ρ} (stop : ∀ k acc, B ≤ k → acc.length ≤ l.length → g (k + 1) acc l.length = fin acc)
    (step : ∀ k i acc, i < l.length → B ≤ k → acc.length ≤ i → g (k + 1) acc i = if p (nt z l i) = true then g k (acc ++ [f (nt z l i)]) (i + 1) else g k acc (i + 1)) :
    ∀ (d k i : Nat) (acc : List β), i + d = l.length → B + d < k → acc.length ≤ i → g k acc i = fin (acc ++ ((l.drop i).filter p).map f) := by
  intro d
  induction d with
  | zero =>
    intro k i acc h hk ha
    obtain ⟨k, rfl⟩ := succ_of hk
    obtain rfl : i = l.length := by omega
    rw [stop k acc (by omega) ha, drop_end]; simp
  | succ d ih =>
    intro k i acc h hk ha
    obtain ⟨k, rfl⟩ := succ_of hk
    rw [step k i acc (by omega) (by omega) ha, drop_step l z i (by omega)]
    cases e : p (nt z l i) with
    | true => rw [if_pos rfl, ih k (i + 1) _ (by omega) (by omega) (by rw [List.length_append, List.length_singleton]; omega), List.filter_cons, if_pos e, List.map_cons, List.append_assoc, List.singleton_append]
    | false => rw [if_neg (by simp), ih k (i + 1) _ (by omega) (by omega) (by omega), List.filter_cons, if_neg (by simp [e])]
/-- What is known of a whole number of 64 bits. -/
theorem wf_int {x : Int} (h : (Lit.int .i64 x).wf = true) : -9223372036854775808 ≤ x ∧ x ≤ 9223372036854775807 := by
  simpa [Lit.wf, IntKind.min, IntKind.max, IntKind.bits, IntKind.signed] using h

/-- A reserved tag. -/
def isReserved (a : Int) : Bool := decide (0 ≤ a ∧ a ≤ 255) && (Int.tmod a 16 == 10)

end Go.Proofs.Ytbahcefcoplmpaa.Gb
