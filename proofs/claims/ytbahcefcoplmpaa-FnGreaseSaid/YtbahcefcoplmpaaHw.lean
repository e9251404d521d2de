/- Plain lemmas for the hand-written contracts of functions that take function values. -/
import Derived.Test.YtbahcefcoplmpaaWWords
import Derived.Test.YtbahcefcoplmpaaWMore
import Derived.Test.YtbahcefcoplmpaaWLast
import Derived.Test.YtbahcefcoplmpaaWTab
set_option linter.unusedSimpArgs false
set_option linter.unusedVariables false
namespace Go.Proofs.Ytbahcefcoplmpaa.Hw
open Go.RowKit Go.Proofs.YtbahcefcoplmpaaW.PrintWords Go.Proofs.YtbahcefcoplmpaaW.PrintLast Go.Proofs.YtbahcefcoplmpaaW.PrintMore

/-- A part of a conjunction, found by its type. -/
class Has (p q : Prop) : Prop where get : p → q
instance (priority := high) Has.self (p : Prop) : Has p p := ⟨id⟩
instance Has.left (p q r : Prop) [h : Has p r] : Has (p ∧ q) r := ⟨fun x => h.get x.1⟩
instance Has.right (p q r : Prop) [h : Has q r] : Has (p ∧ q) r := ⟨fun x => h.get x.2⟩
theorem pick {p q : Prop} [h : Has p q] (x : p) : q := h.get x
theorem ne_pick {α : Type} {p : Prop} {a b : α} (x : p) (e : a = b) [h : Has p (a ≠ b)] : False := h.get x e
section
variable {α : Type}
/-- Where the first element with p stands from place kk on, or -1. -/
def idxAt (p : α → Bool) (l : List α) (kk : Int) : Int := ((l.drop kk.toNat).findIdx? p).elim (-1) fun j => ((kk.toNat + j : Nat) : Int)
/-- Where the first element with p stands, or -1. -/
def idxOf (p : α → Bool) (l : List α) : Int := (l.findIdx? p).elim (-1) fun j => (j : Int)
theorem idxAt_zero (p : α → Bool) (l : List α) : idxAt p l 0 = idxOf p l := by simp [idxAt, idxOf]
theorem idxAt_hit (p : α → Bool) (l : List α) (z : α) (kk : Int) (h0 : 0 ≤ kk) (h : kk < (l.length : Int)) (hp : p (l.getD kk.toNat z) = true) : idxAt p l kk = kk := by
  have hlt : kk.toNat < l.length := by omega
  unfold idxAt
  rw [List.drop_eq_getElem_cons hlt, List.findIdx?_cons]
  rw [List.getD_eq_getElem?_getD, List.getElem?_eq_getElem hlt, Option.getD_some] at hp
  rw [if_pos hp]
  simp; omega
theorem idxAt_go (p : α → Bool) (l : List α) (z : α) (kk : Int) (h0 : 0 ≤ kk) (h : kk < (l.length : Int)) (hp : p (l.getD kk.toNat z) = false) : idxAt p l kk = idxAt p l (kk + 1) := by
  have hlt : kk.toNat < l.length := by omega
  unfold idxAt
  rw [List.drop_eq_getElem_cons hlt, List.findIdx?_cons]
  rw [List.getD_eq_getElem?_getD, List.getElem?_eq_getElem hlt, Option.getD_some] at hp
  rw [if_neg (by simp [hp]), show (kk + 1).toNat = kk.toNat + 1 by omega]
  cases (l.drop (kk.toNat + 1)).findIdx? p with
  | none => rfl
  | some j => simp; omega
theorem idxAt_end (p : α → Bool) (l : List α) (kk : Int) (h : ¬ kk < (l.length : Int)) : idxAt p l kk = -1 := by
  unfold idxAt
  rw [List.drop_eq_nil_of_le (by omega)]; rfl
theorem idxOf_any (p : α → Bool) (l : List α) : decide (idxOf p l ≥ 0) = l.any p := by
  unfold idxOf
  cases e : l.findIdx? p with
  | none =>
    rw [List.findIdx?_eq_none_iff] at e
    have : l.any p = false := by rw [List.any_eq_false]; intro x hx; simp [e x hx]
    rw [this]; rfl
  | some j =>
    obtain ⟨h1, h2, _⟩ := List.findIdx?_eq_some_iff_getElem.1 e
    have : l.any p = true := List.any_eq_true.2 ⟨l[j], List.getElem_mem h1, h2⟩
    rw [this]; simp
theorem wrap_kk {kk : Int} {n : Nat} (h0 : 0 ≤ kk) (h : kk < (n : Int)) (hn : n ≤ 9223372036854775807) : wrap64 (kk + 1) = kk + 1 := by unfold wrap64; omega
theorem ret_int {k : IntKind} {a b : Int} (h : a = b) : Ending.returned (.int k a) = .returned (.int k b) := by rw [h]
/-- A cell that lay in w lies in any later world. -/
theorem cell_later {w W : World} (h : Below w.heap.size w W) {a : Addr} {v : Value} (hc : w.cell? a = some v) : W.cell? a = some v := (h.cell (World.block_lt_of_cell? w a hc)).trans hc
theorem below_trans {w W W2 : World} (h : Below w.heap.size w W) (k : Below W.heap.size W W2) : Below w.heap.size w W2 := below_then h h.size k
end
section
variable {P : Program} {ops : Array Oper} {Q : Exit → Act → World → Prop}
/-- A call of a function value whose captured variables are lb. -/
theorem goesV_ {rest : List Oper} {oi : Oper} {a : Act} {w : World} (N : Option Tmp) (hd : oi.dst = N) (hg : oi.guard = none) {f : FuncId} {fn : Func} {as : Array Operand} {ts : Array TypeId} {s : Operand} {lb : Array Value} (hf : P.funcs[f]? = some fn) (hname : (fn.name == "runtime.NumGoroutine") = false) (hb : fn.body.isSome = true) (args : Array Value)
    (hop : oi.op = .call { callee := .value s, args := as, argTypes := ts }) (hs : a.eval s = .func (.func f) #[] lb) (hargs : as.map a.eval = args)
    (h : Calls P f (args ++ lb) w fun e w' => ∃ v, e = .returned v ∧ wpList P ops Q rest (a.put N v) w') : wpList P ops Q (oi :: rest) a w := by
  refine wpList_plain hg fun K hK => ?_
  have he := enters_ hf hname hb (args ++ lb) w
  have hrun : (execOp a.eval oi).run P w = .ok (.enter f (args ++ lb)) w := by
    unfold execOp
    simp [hop, resolve, Deferred.ofValue, invoke, hargs, hs, he]
  unfold Oper.wp
  rw [hrun, Oper.upon_enter]
  refine h.mono fun e w'' hh => ?_
  obtain ⟨v, rfl, hk⟩ := hh
  subst hd
  exact hK _ _ hk
/-- The same as a step of a region that draws. -/
theorem goesVs_ {oi : Oper} {N : Option Tmp} {a : Act} {w : World} {K : Act → World → Prop} {f : FuncId} {fn : Func} {as : Array Operand} {ts : Array TypeId} {s : Operand} {lb : Array Value} (hf : P.funcs[f]? = some fn) (hname : (fn.name == "runtime.NumGoroutine") = false) (hb : fn.body.isSome = true) (args : Array Value)
    (hw : Region.wanted oi (yielded ops a.tmps) = true) (hN : oi.dst = N) (hop : oi.op = .call { callee := .value s, args := as, argTypes := ts }) (hs : a.eval s = .func (.func f) #[] lb) (hargs : as.map a.eval = args)
    (h : Calls P f (args ++ lb) w fun e w' => ∃ v, e = .returned v ∧ K (a.put N v) w') : if Region.wanted oi (yielded ops a.tmps) = true then Oper.wp P oi a w K Q else K (a.put N undef) w := by
  refine call_ f (args ++ lb) hw hN ?_ h
  have he := enters_ hf hname hb (args ++ lb) w
  unfold execOp
  simp [hop, resolve, Deferred.ofValue, invoke, hs, hargs, he]
end
/-! ### A row of rows that is handed to what writes it: it is younger than another row of rows (lo), and of other types than all else. -/
section
variable {α : Type} {d : Kd α} {e : Nat} {w W W2 : World} {base lo : Nat} {ok : Nat → Prop} {v u : Value} {xs ys : List α}
theorem gh_new (ho : Kd.S d e W2 W.heap.size ok v xs) (h : Kd.S d e W base (fun _ => True) u ys) (hb : Below W.heap.size W W2) (hB : base ≤ W.heap.size) :
    ∃ lo : Nat, Kd.S d e W2 base (fun k => lo ≤ k) v xs ∧ Kd.S d e W2 base (fun k => k < lo) u ys :=
  ⟨W.heap.size, Kd.S_lower (Kd.S_mono (Kd.S_bound ho) (fun _ hk => hk.2.1)) hB, Kd.S_mono (Kd.S_old h hb) (fun _ hk => hk.2)⟩
theorem gh_hold (h : Kd.S d e W base (fun k => lo ≤ k) v xs) : ∃ P : Nat → Prop, Kd.S d e W base P v xs ∧ (∀ k, P k → lo ≤ k) ∧ ∀ k, P k → ∃ q, q ∈ e :: d.E ∧ ∃ cells, W.heap[k]? = some (.cells cells q (0, 0)) :=
  ⟨_, Kd.S_bound h, fun _ hk => hk.1, fun _ hk => hk.2.2.2⟩
theorem gh_size (_ : Below W.heap.size W W2) : ∃ lo : Nat, lo = W.heap.size := ⟨_, rfl⟩
theorem gh_old (h : Kd.N d e W base ok u ys) (hb : Below W.heap.size W W2) (hl : lo = W.heap.size) : Kd.N d e W2 base (fun k => ok k ∧ k < lo) u ys := by
  subst hl
  exact Kd.N_old h hb
theorem gh_ne {k : Nat} {E1 E2 : List Nat} (h : ∃ q, q ∈ E1 ∧ ∃ cells, W.heap[k]? = some (.cells cells q (0, 0))) (h2 : ∃ q, q ∈ E2 ∧ ∃ cells, W.heap[k]? = some (.cells cells q (0, 0))) (hd : ∀ q, q ∈ E1 → ∀ q2, q2 ∈ E2 → q ≠ q2) : False := by
  obtain ⟨q, hq, c, hc⟩ := h
  obtain ⟨q2, hq2, c2, hc2⟩ := h2
  rw [hc] at hc2
  injection hc2 with hc2
  injection hc2 with _ hc2
  exact hd q hq q2 hq2 hc2
theorem gh_blk {g t : Nat} {cs : Array Value} {E2 : List Nat} (hb : W.heap[g]? = some (.cells cs t (0, 0))) (h2 : ∃ q, q ∈ E2 ∧ ∃ cells, W.heap[g]? = some (.cells cells q (0, 0))) (hd : ∀ q, q ∈ [t] → ∀ q2, q2 ∈ E2 → q ≠ q2) : False :=
  gh_ne ⟨t, List.mem_singleton.2 rfl, cs, hb⟩ h2 hd
end
/-! ### Short words for steps that come again and again. -/
/-- One way of a test answers nothing (or the other answer). -/
theorem ifS {P : Prop} [Decidable P] {α : Type} {a b : Option α} {r : α} (h : (if P then a else b) = some r) (hb : ¬ (b = some r) := by simp) : P ∧ a = some r := by
  by_cases q : P
  · rw [if_pos q] at h; exact ⟨q, h⟩
  · rw [if_neg q] at h; exact absurd h hb
theorem ifN {P : Prop} [Decidable P] {α : Type} {a b : Option α} {r : α} (h : (if P then a else b) = some r) (ha : ¬ (a = some r) := by simp) : ¬ P ∧ b = some r := by
  by_cases q : P
  · rw [if_pos q] at h; exact absurd h ha
  · rw [if_neg q] at h; exact ⟨q, h⟩
theorem bindS {α β : Type} {x : Option α} {f : α → Option β} {r : β} (h : (x.bind f) = some r) : ∃ t, Aside0 (x = some t) ∧ f t = some r := by
  obtain ⟨t, h1, h2⟩ := Option.bind_eq_some_iff.mp h
  exact ⟨t, ⟨h1⟩, h2⟩
section
theorem zB {a : Nat} {w W1 W : World} (h1 : Aside0 (Below a w W1)) (hw : Below a w W1 → Below a w W := by intro h_; repeat (first | (with_reducible first | exact h_ | apply below_alloc | apply pw_below_drewN | apply below_drew1 | refine below_set ?_ (Aside0.out (by assumption))) | exact h_)) : Below a w W := hw h1.out
theorem bS {w W1 W W2 : World} (h1 : Aside0 (Below w.heap.size w W1)) (hb : Below W.heap.size W W2) (hw : Below w.heap.size w W1 → Below w.heap.size w W := by intro h_; repeat (first | (with_reducible first | exact h_ | apply below_alloc | apply pw_below_drewN | apply below_drew1 | refine below_set ?_ (Aside0.out (by assumption))) | exact h_)) : Aside0 (Below w.heap.size w W2) := ⟨below_step (hw h1.out) hb⟩
theorem gS {w W1 W : World} {g : Nat} (h1 : Aside0 (Below w.heap.size w W1)) (hg : g = W.heap.size) (hw : Below w.heap.size w W1 → Below w.heap.size w W := by intro h_; repeat (first | (with_reducible first | exact h_ | apply below_alloc | apply pw_below_drewN | apply below_drew1 | refine below_set ?_ (Aside0.out (by assumption))) | exact h_)) : Aside0 (w.heap.size ≤ g) := ⟨by rw [hg]; exact below_size (hw h1.out)⟩
theorem zK {g : Nat} {o : Obj} {w W : World} (h : Aside0 (w.heap[g]? = some o)) (hw : w.heap[g]? = some o → W.heap[g]? = some o := by intro h_; (with_reducible repeat (first | refine blk_drewN ?_ _ | refine blk_drew ?_ | refine blk_alloc ?_ _)); exact h_) : W.heap[g]? = some o := hw h.out
theorem kB {g : Nat} {o : Obj} {w W W2 : World} (h : Aside0 (w.heap[g]? = some o)) (hb : Below W.heap.size W W2) (hw : w.heap[g]? = some o → W.heap[g]? = some o := by intro h_; (with_reducible repeat (first | refine blk_drewN ?_ _ | refine blk_drew ?_ | refine blk_alloc ?_ _)); exact h_) : Aside0 (W2.heap[g]? = some o) := ⟨blk_below (hw h.out) hb⟩
theorem zR {P Q : Prop} (h : Aside0 P) (hw : P → Q := by intro h_; (with_reducible repeat (first | apply Kd.R_alloc | apply Kd.R_drewN | apply Kd.R_drew)); exact h_) : Q := hw h.out
theorem zS {P Q : Prop} (h : Aside0 P) (hw : P → Q := by intro h_; (with_reducible repeat (first | apply Kd.S_alloc | apply Kd.S_drewN | apply Kd.S_drew)); exact h_) : Q := hw h.out
theorem zG {P : Prop} (h : P := by (try simp only [List.map_toArray, List.map_cons, List.map_nil]); first | done | rfl | (simp only [List.length_drop, List.length_take]; rfl)) : P := h
theorem zF {P : Prop} (h : P := by first | rfl | (simp; done) | (simp [*]; done)) : P := h
theorem cS {α : Type} {d : Kd α} {A : Option Addr} {n : Nat} {xs : List α} {w W1 W : World} (h : Aside0 (Kd.C d w A n xs)) (h1 : Aside0 (Below w.heap.size w W1)) (hw : Kd.C d W1 A n xs → Kd.C d W A n xs := by intro h_; repeat (first | exact h_ | (with_reducible refine Kd.C_alloc ?_ _) | (with_reducible refine Kd.C_drewN ?_ _) | (with_reducible refine Kd.C_drew ?_))) : Kd.C d W A n xs := hw (Kd.C_below h.out h1.out)
theorem bc0 {w : World} {g : Nat} {t : TypeId} {v0 : Value} {l : List Value} (h : Aside0 (w.heap[g]? = some (.cells (v0 :: l).toArray t (0, 0)))) : w.cell? ⟨g, 0, none⟩ = some v0 := (blk_cell h.out 0).trans rfl
theorem bc1 {w : World} {g : Nat} {t : TypeId} {v0 v1 : Value} {l : List Value} (h : Aside0 (w.heap[g]? = some (.cells (v0 :: v1 :: l).toArray t (0, 0)))) : w.cell? ⟨g, 1, none⟩ = some v1 := (blk_cell h.out 1).trans rfl
theorem bc2 {w : World} {g : Nat} {t : TypeId} {v0 v1 v2 : Value} {l : List Value} (h : Aside0 (w.heap[g]? = some (.cells (v0 :: v1 :: v2 :: l).toArray t (0, 0)))) : w.cell? ⟨g, 2, none⟩ = some v2 := (blk_cell h.out 2).trans rfl
theorem bc3 {w : World} {g : Nat} {t : TypeId} {v0 v1 v2 v3 : Value} {l : List Value} (h : Aside0 (w.heap[g]? = some (.cells (v0 :: v1 :: v2 :: v3 :: l).toArray t (0, 0)))) : w.cell? ⟨g, 3, none⟩ = some v3 := (blk_cell h.out 3).trans rfl
theorem cT {α : Type} {d : Kd α} {A : Option Addr} {n : Nat} {xs : List α} {W1 W : World} (h : Aside0 (Kd.C d W1 A n xs)) (hw : Kd.C d W1 A n xs → Kd.C d W A n xs := by intro h_; repeat (first | exact h_ | (with_reducible refine Kd.C_alloc ?_ _) | (with_reducible refine Kd.C_drewN ?_ _) | (with_reducible refine Kd.C_drew ?_))) : Kd.C d W A n xs := hw h.out
/-- n truth values, told by the bits of m. -/
def bl (m : Nat) : Nat → Nat → List Bool
  | 0, _ => []
  | n + 1, i => Nat.beq (m / 2 ^ i % 2) 1 :: bl m n (i + 1)
def bm (n m : Nat) : Array Bool := (bl m n 0).toArray
theorem bl0 : ∀ n i : Nat, bl 0 n i = List.replicate n false
  | 0, _ => rfl
  | n + 1, i => by unfold bl; rw [bl0 n (i + 1), Nat.zero_div, List.replicate_succ]; rfl
theorem bm0 (n : Nat) : Array.replicate n false = bm n 0 := by unfold bm; rw [bl0]; simp
theorem bf {w : World} {g : Nat} {t : TypeId} {cs : Array Value} (h : Aside0 (w.heap[g]? = some (.cells cs t (0, 0)))) (i : Nat) : w.frozen? ⟨g, i, none⟩ = false := blk_frozen h.out i
section
variable {P : Program} {ops : Array Oper} {Q : Exit → Act → World → Prop} {md : Region.Mode} {S : World → Prop} {ds : List Nat}
/-- A step of a region that draws, that yields in every world. -/
theorem pU (i : Nat) (N : Option Tmp) {oi : Oper} {v : Value} {fuel : Nat} {l : Array Bool} {a a' : Act} {w : World} {T : Bool × List (List Nat × List Nat)} (l' : Array Bool) (hT : Aside0 (rtab md ops = T)) (hi : ops[i]? = some oi) (hN : oi.dst = N) (h : wpAnyLast P md ops Q S ds fuel l' a' w)
    (hc : anyT T l.toList l'.toList i = true := by kernel_rfl) (hQ : ∀ c a w, Q (.panic c) (a.put oi.dst v) w → Q (.panic c) a w := by exact fun _ _ _ h => h) (hg : Region.wanted oi (yielded ops a.tmps) = true := by rfl)
    (hy : ∀ w, (execOp a.eval oi).run P w = .ok (.value v) w := by intro w'; go_simp; with_reducible rfl) (ha : a.put N v = a' := by simp only [Act.put, List.setIfInBounds_toArray, List.set_cons_zero, List.set_cons_succ, i64_w, i32_w]; rfl) : wpAnyLast P md ops Q S ds (fuel + 1) l a w :=
  pure_ l' hi hN (any_of hT.out hc) hQ (.inl ⟨hg, hy⟩) ha h
/-- A step that yields where what is held (S) is known. -/
theorem tU (i : Nat) (N : Option Tmp) {oi : Oper} {v : Value} {fuel : Nat} {l : Array Bool} {a a' : Act} {w : World} {T : Bool × List (List Nat × List Nat)} {B : List Nat} (l' : Array Bool) (hT : Aside0 (rtab md ops = T)) (hB : Aside0 (waitsOk T.2 B = true)) (hi : ops[i]? = some oi) (hN : oi.dst = N) (hS : S w) (h : wpAnyLast P md ops Q S ds fuel l' a' w)
    (hc : takeW T B ds l.toList l'.toList i = true := by kernel_rfl) (hQ : ∀ c a w, Q (.panic c) (a.put oi.dst v) w → Q (.panic c) a w := by exact fun _ _ _ h => h) (hg : Region.wanted oi (yielded ops a.tmps) = true := by rfl)
    (hy : ∀ w, S w → (execOp a.eval oi).run P w = .ok (.value v) w := by intro w' hS_; (repeat (have s_ := hS_.1; replace hS_ := hS_.2)); go_simp; with_reducible rfl) (ha : a.put N v = a' := by simp only [Act.put, List.setIfInBounds_toArray, List.set_cons_zero, List.set_cons_succ, i64_w, i32_w]; rfl) : wpAnyLast P md ops Q S ds (fuel + 1) l a w :=
  take_ l' hi hN (take_ofW hT.out hB.out hc) hQ (.inl ⟨hg, hy⟩) hS ha h
end
section
variable {P : Program} {ops : Array Oper} {Q : Exit → Act → World → Prop} {md : Region.Mode} {S : World → Prop} {ds : List Nat}
/-- A step whose value nobody wants. -/
theorem pV (i : Nat) (N : Option Tmp) {oi : Oper} {fuel : Nat} {l : Array Bool} {a a' : Act} {w : World} {T : Bool × List (List Nat × List Nat)} (l' : Array Bool) (hT : Aside0 (rtab md ops = T)) (hi : ops[i]? = some oi) (hN : oi.dst = N) (h : wpAnyLast P md ops Q S ds fuel l' a' w)
    (hc : anyT T l.toList l'.toList i = true := by kernel_rfl) (hQ : ∀ c a w, Q (.panic c) (a.put oi.dst undef) w → Q (.panic c) a w := by exact fun _ _ _ h => h) (hg : Region.wanted oi (yielded ops a.tmps) = false := by rfl)
    (ha : a.put N undef = a' := by simp only [Act.put, List.setIfInBounds_toArray, List.set_cons_zero, List.set_cons_succ, i64_w, i32_w]; rfl) : wpAnyLast P md ops Q S ds (fuel + 1) l a w :=
  pure_ l' hi hN (any_of hT.out hc) hQ (.inr ⟨hg, rfl⟩) ha h
end
section
variable {w W : World} {a : Addr} {v : Value} {g g2 : Nat} {o : Obj}
theorem hL {W2 : World} (h : Aside0 (Below w.heap.size w W)) (hc : w.cell? a = some v) (hw : W.cell? a = some v → W2.cell? a = some v := by exact fun h_ => h_) : W2.cell? a = some v := hw (cell_later h.out hc)
theorem zD {p : Prop} [Decidable p] (h : decide p = true := by first | (with_reducible assumption) | assumption) : p := of_decide_eq_true h
theorem nL (h : Aside0 (w.heap[g]? = some o)) (hg : g2 = W.heap.size) (hw : w.heap[g]? = some o → W.heap[g]? = some o := by intro h_; (with_reducible repeat (first | refine blk_drewN ?_ _ | refine blk_drew ?_ | refine blk_alloc ?_ _)); exact h_) : Aside0 (g ≠ g2) := ⟨by rw [hg]; exact Nat.ne_of_lt (blk_lt (hw h.out))⟩
theorem nR (h : Aside0 (w.heap[g]? = some o)) (hg : g2 = W.heap.size) (hw : w.heap[g]? = some o → W.heap[g]? = some o := by intro h_; (with_reducible repeat (first | refine blk_drewN ?_ _ | refine blk_drew ?_ | refine blk_alloc ?_ _)); exact h_) : Aside0 (g2 ≠ g) := ⟨by rw [hg]; exact Nat.ne_of_gt (blk_lt (hw h.out))⟩
theorem zE {p : Prop} (h : p := by first | rfl | (simp [errW_none, errW_some] <;> rfl) | (simp [*, errW_none, errW_some] <;> rfl)) : p := h
theorem zH {a b c : World} {g : Nat} {row : Option Nat} (h : Aside0 (KeepBut a b g row)) (hw : KeepBut a b g row → KeepBut a c g row := by intro h_; repeat (first | (with_reducible first | exact h_ | apply KeepBut.set_ | apply keep_drewN | apply keep_drew | apply keep_alloc | refine keep_far ?_ (Aside0.out (by assumption)) _) | exact h_)) : KeepBut a c g row := hw h.out
end
end
/-! ### Words for steps over stores and calls (short3.py). -/
section
variable {w0 w w1 W1 W W2 : World} {g gb g' : Nat} {o : Obj} {row : Option Nat}
theorem kF (h : Aside0 (w.heap[g]? = some o)) (hw : w.heap[g]? = some o → W.heap[g]? = some o := by intro h_; repeat (first | (with_reducible first | exact h_ | refine blk_drewN ?_ _ | refine blk_drew ?_ | refine blk_alloc ?_ _ | refine blk_far ?_ (Aside0.out (by assumption)) _) | refine blk_far ?_ (Aside0.out (by assumption)) _ | exact h_)) : W.heap[g]? = some o := hw h.out
theorem gK (hk : Aside0 (KeepBut w W1 g row)) (hg : gb = W.heap.size) (hw : KeepBut w W1 g row → KeepBut w W g row := by intro h_; repeat (first | (with_reducible first | exact h_ | apply KeepBut.set_ | apply keep_drewN | apply keep_drew | apply keep_alloc | refine keep_far ?_ (Aside0.out (by assumption)) _) | exact h_)) : Aside0 (w.heap.size ≤ gb) := ⟨by rw [hg]; exact (hw hk.out).1⟩
theorem gL (a : Aside0 (w0.heap.size ≤ w.heap.size)) (b : Aside0 (w.heap.size ≤ gb)) : Aside0 (w0.heap.size ≤ gb) := ⟨Nat.le_trans a.out b.out⟩
theorem hkB (hk : Aside0 (KeepBut w W1 g none)) (hb : Below W.heap.size W W2) (hw : KeepBut w W1 g none → KeepBut w W g none := by intro h_; repeat (first | (with_reducible first | exact h_ | apply KeepBut.set_ | apply keep_drewN | apply keep_drew | apply keep_alloc | refine keep_far ?_ (Aside0.out (by assumption)) _) | exact h_)) : Aside0 (KeepBut w W2 g none) := ⟨KeepBut.trans (hw hk.out) (KeepBut.of_below hb g none) (.inl rfl)⟩
theorem hkT (hk : Aside0 (KeepBut w W1 g none)) (h2 : KeepBut W W2 g none) (hw : KeepBut w W1 g none → KeepBut w W g none := by intro h_; repeat (first | (with_reducible first | exact h_ | apply KeepBut.set_ | apply keep_drewN | apply keep_drew | apply keep_alloc | refine keep_far ?_ (Aside0.out (by assumption)) _) | exact h_)) : Aside0 (KeepBut w W2 g none) := ⟨KeepBut.trans (hw hk.out) h2 (.inl rfl)⟩
theorem kbT (hk : KeepBut W W2 g none) (h : Aside0 (w1.heap[g']? = some o)) (hn : Aside0 (g' ≠ g)) (hw : w1.heap[g']? = some o → W.heap[g']? = some o := by intro h_; repeat (first | (with_reducible first | exact h_ | refine blk_drewN ?_ _ | refine blk_drew ?_ | refine blk_alloc ?_ _ | refine blk_far ?_ (Aside0.out (by assumption)) _) | refine blk_far ?_ (Aside0.out (by assumption)) _ | exact h_)) : Aside0 (W2.heap[g']? = some o) := ⟨KeepBut.blk hk (hw h.out) hn.out (by simp)⟩
theorem cU {α : Type} {d : Kd α} {A : Option Addr} {n : Nat} {xs : List α} (h : Kd.C d W1 A n xs) (hw : Kd.C d W1 A n xs → Kd.C d W A n xs := by intro h_; repeat (first | exact h_ | (with_reducible refine Kd.C_alloc ?_ _) | (with_reducible refine Kd.C_drewN ?_ _) | (with_reducible refine Kd.C_drew ?_))) : Kd.C d W A n xs := hw h
theorem slI {A B : Option Addr} {n m c d : Nat} (h : Value.slice A n c = .slice B m d) : B = A ∧ d = c := by
  injection h with h1 _ h3
  exact ⟨h1.symm, h3.symm⟩
/-- Two blocks may have been written. -/
def Kp2 (w W : World) (g g' : Nat) : Prop := w.heap.size ≤ W.heap.size ∧ ∀ i, i < w.heap.size → i ≠ g → i ≠ g' → W.heap[i]? = w.heap[i]?
theorem Kp2.refl (w : World) (g g' : Nat) : Kp2 w w g g' := ⟨Nat.le_refl _, fun _ _ _ _ => rfl⟩
theorem Kp2.set1 (h : Kp2 w W g g') (j : Nat) (u : Value) : Kp2 w (W.setCell ⟨g, j, none⟩ u) g g' := ⟨by simpa [World.setCell] using h.1, fun i hi h1 h2 => (Below.heap_setCell W ⟨g, j, none⟩ u i h1).trans (h.2 i hi h1 h2)⟩
theorem Kp2.set2 (h : Kp2 w W g g') (j : Nat) (u : Value) : Kp2 w (W.setCell ⟨g', j, none⟩ u) g g' := ⟨by simpa [World.setCell] using h.1, fun i hi h1 h2 => (Below.heap_setCell W ⟨g', j, none⟩ u i h2).trans (h.2 i hi h1 h2)⟩
theorem Kp2.alloc (h : Kp2 w W g g') (o : Obj) : Kp2 w (W.alloc o) g g' := ⟨Nat.le_trans h.1 (below_alloc (Below.refl _ _) o).size, fun i hi h1 h2 => (Below.heap_alloc W o i (Nat.lt_of_lt_of_le hi h.1)).trans (h.2 i hi h1 h2)⟩
theorem Kp2.drewN (h : Kp2 w W g g') (m : Nat) : Kp2 w (W.drewN m) g g' := h
theorem Kp2.drew (h : Kp2 w W g g') : Kp2 w W.drew g g' := h
section
variable {α : Type} {d : Kd α} {e base t t' : Nat} {ok : Nat → Prop} {v : Value} {xs : List α} {cs cs' : Array Value}
/-- A row over stores into a block of another type. -/
theorem rB (h : Aside0 (Kd.R d e W base ok v xs)) (hb : Aside0 (W.heap[g]? = some (.cells cs t (0, 0)))) (hd : KeepBut W W2 g none := by repeat (first | (with_reducible first | exact KeepBut.refl _ _ _ | apply KeepBut.set_ | apply keep_drewN | apply keep_drew | apply keep_alloc) | exact KeepBut.refl _ _ _)) (ht : ∀ q, q ∈ e :: d.E → q ≠ t := by decide) : Kd.R d e W2 base (fun k => ok k ∧ k ≠ g) v xs := Kd.R_keep (Kd.R_types h.out hb.out ht) hd (fun _ hk => hk.2)
theorem rB2 (h : Aside0 (Kd.R d e W base ok v xs)) (hb : Aside0 (W.heap[g]? = some (.cells cs t (0, 0)))) (hb' : Aside0 (W.heap[g']? = some (.cells cs' t' (0, 0)))) (hd : Kp2 W W2 g g' := by repeat (first | (with_reducible first | exact Kp2.refl _ _ _ | apply Kp2.set1 | apply Kp2.set2 | apply Kp2.drewN | apply Kp2.drew | apply Kp2.alloc) | exact Kp2.refl _ _ _)) (ht : ∀ q, q ∈ e :: d.E → q ≠ t := by decide) (ht' : ∀ q, q ∈ e :: d.E → q ≠ t' := by decide) : Kd.R d e W2 base (fun k => (ok k ∧ k ≠ g) ∧ k ≠ g') v xs :=
  Kd.R_step (Kd.R_types (Kd.R_types h.out hb.out ht) hb'.out ht') (fun k ho hk => hd.2 k hk ho.1.2 ho.2)
end
theorem bq1 {t : TypeId} {v0 : Value} {l : List Value} (h : Aside0 (w.heap[g]? = some (.cells (v0 :: l).toArray t (0, 0)))) : w.cell? ⟨g, 0, none⟩ = some v0 ∧ w.frozen? ⟨g, 0, none⟩ = false := ⟨bc0 h, bf h 0⟩
theorem bq3 {t : TypeId} {v0 v1 v2 : Value} {l : List Value} (h : Aside0 (w.heap[g]? = some (.cells (v0 :: v1 :: v2 :: l).toArray t (0, 0)))) : w.cell? ⟨g, 0, none⟩ = some v0 ∧ w.cell? ⟨g, 1, none⟩ = some v1 ∧ w.cell? ⟨g, 2, none⟩ = some v2 ∧ w.frozen? ⟨g, 0, none⟩ = false ∧ w.frozen? ⟨g, 1, none⟩ = false ∧ w.frozen? ⟨g, 2, none⟩ = false := ⟨bc0 h, bc1 h, bc2 h, bf h 0, bf h 1, bf h 2⟩
theorem bq4 {t : TypeId} {v0 v1 v2 v3 : Value} {l : List Value} (h : Aside0 (w.heap[g]? = some (.cells (v0 :: v1 :: v2 :: v3 :: l).toArray t (0, 0)))) : w.cell? ⟨g, 0, none⟩ = some v0 ∧ w.cell? ⟨g, 1, none⟩ = some v1 ∧ w.cell? ⟨g, 2, none⟩ = some v2 ∧ w.cell? ⟨g, 3, none⟩ = some v3 ∧ w.frozen? ⟨g, 0, none⟩ = false ∧ w.frozen? ⟨g, 1, none⟩ = false ∧ w.frozen? ⟨g, 2, none⟩ = false ∧ w.frozen? ⟨g, 3, none⟩ = false := ⟨bc0 h, bc1 h, bc2 h, bc3 h, bf h 0, bf h 1, bf h 2, bf h 3⟩
end
section
variable {P : Program} {ops : Array Oper} {Q : Exit → Act → World → Prop} {md : Region.Mode} {S : World → Prop} {ds : List Nat}
/-- Behind a call in a region that draws: the table with the value that came back. -/
theorem nU (N : Tmp) {v : Value} {fuel : Nat} {l : Array Bool} {a a' : Act} {w : World} (h : wpAnyLast P md ops Q S ds fuel l a' w) (ha : a.put (some N) v = a' := by simp only [Act.put, List.setIfInBounds_toArray, List.set_cons_zero, List.set_cons_succ, i64_w, i32_w]; rfl) : wpAnyLast P md ops Q S ds fuel l (a.put (some N) v) w := norm_ ha h
end
/-! Short names (SHORT4). -/
theorem aM {p : Prop} (h : p) : Aside0 p := ⟨h⟩
theorem _root_.Go.Proofs.YtbahcefcoplmpaaW.PrintWords.Aside0.o {p : Prop} (h : Aside0 p) : p := h.out
theorem bN : type_of% @blk_drewN := @blk_drewN
theorem bD : type_of% @blk_drew := @blk_drew
theorem bA : type_of% @blk_alloc := @blk_alloc
theorem bP : type_of% @blk_put := @blk_put
theorem bF : type_of% @blk_far := @blk_far
theorem rQ : type_of% @Kd.R_reads' := @Kd.R_reads'
theorem rW : type_of% @Kd.R_below := @Kd.R_below
theorem rM : type_of% @Kd.R_mono := @Kd.R_mono
theorem rD : type_of% @Kd.R_drew := @Kd.R_drew
theorem rN : type_of% @Kd.R_drewN := @Kd.R_drewN
theorem rA : type_of% @Kd.R_alloc := @Kd.R_alloc
theorem rL : type_of% @Kd.R_slice := @Kd.R_slice
theorem rO : type_of% @Kd.R_lower := @Kd.R_lower
theorem qD : type_of% @Kd.C_drew := @Kd.C_drew
theorem qN : type_of% @Kd.C_drewN := @Kd.C_drewN
theorem qA : type_of% @Kd.C_alloc := @Kd.C_alloc
theorem gD : type_of% @gate_dst := @gate_dst
theorem gC : type_of% @gate_callee := @gate_callee
theorem cF : type_of% @cell_far := @cell_far
theorem bZ : type_of% @below_size := @below_size
theorem lA : type_of% @List.setIfInBounds_toArray := @List.setIfInBounds_toArray
theorem lB : type_of% @List.set_cons_zero := @List.set_cons_zero
theorem lC : type_of% @List.set_cons_succ := @List.set_cons_succ
theorem dT : type_of% @decide_eq_true := @decide_eq_true
theorem oI : type_of% @Option.some.inj := @Option.some.inj
theorem oB : type_of% @Option.bind_eq_some_iff := @Option.bind_eq_some_iff
theorem wL : type_of% @World.block_lt_of_cell? := @World.block_lt_of_cell?
section
variable {P : Program} {ops : Array Oper} {Q : Exit → Act → World → Prop} {md : Region.Mode} {S : World → Prop} {ds : List Nat}
theorem pW (i N x y : Nat) {oi : Oper} {v : Value} {fuel : Nat} {l : Array Bool} {a a' : Act} {w : World} {T : Bool × List (List Nat × List Nat)} (hT : Aside0 (rtab md ops = T)) (hi : ops[i]? = some oi) (hN : oi.dst = some N) (h : wpAnyLast P md ops Q S ds fuel (bm x y) a' w)
    (hc : anyT T l.toList (bm x y).toList i = true := by kernel_rfl) (hQ : ∀ c a w, Q (.panic c) (a.put oi.dst v) w → Q (.panic c) a w := by exact fun _ _ _ h => h) (hg : Region.wanted oi (yielded ops a.tmps) = true := by rfl)
    (hy : ∀ w, (execOp a.eval oi).run P w = .ok (.value v) w := by intro w'; go_simp; with_reducible rfl) (ha : a.put (some N) v = a' := by simp only [Act.put, List.setIfInBounds_toArray, List.set_cons_zero, List.set_cons_succ, i64_w, i32_w]; rfl) : wpAnyLast P md ops Q S ds (fuel + 1) l a w :=
  pU i (some N) (bm x y) hT hi hN h hc hQ hg hy ha
theorem tW (i N x y : Nat) {oi : Oper} {v : Value} {fuel : Nat} {l : Array Bool} {a a' : Act} {w : World} {T : Bool × List (List Nat × List Nat)} {B : List Nat} (hT : Aside0 (rtab md ops = T)) (hB : Aside0 (waitsOk T.2 B = true)) (hi : ops[i]? = some oi) (hN : oi.dst = some N) (hS : S w) (h : wpAnyLast P md ops Q S ds fuel (bm x y) a' w)
    (hc : takeW T B ds l.toList (bm x y).toList i = true := by kernel_rfl) (hQ : ∀ c a w, Q (.panic c) (a.put oi.dst v) w → Q (.panic c) a w := by exact fun _ _ _ h => h) (hg : Region.wanted oi (yielded ops a.tmps) = true := by rfl)
    (hy : ∀ w, S w → (execOp a.eval oi).run P w = .ok (.value v) w := by intro w' hS_; (repeat (have s_ := hS_.1; replace hS_ := hS_.2)); go_simp; with_reducible rfl) (ha : a.put (some N) v = a' := by simp only [Act.put, List.setIfInBounds_toArray, List.set_cons_zero, List.set_cons_succ, i64_w, i32_w]; rfl) : wpAnyLast P md ops Q S ds (fuel + 1) l a w :=
  tU i (some N) (bm x y) hT hB hi hN hS h hc hQ hg hy ha
end
end Go.Proofs.Ytbahcefcoplmpaa.Hw
