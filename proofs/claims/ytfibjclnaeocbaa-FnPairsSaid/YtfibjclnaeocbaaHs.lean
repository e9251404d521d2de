/- Plain lemmas for the contracts of slices.Sort and slices.Compact on a row of whole numbers of the call's own; for any program. -/
import Derived.Test.YtfibjclnaeocbaaWWords
import Derived.Test.YtfibjclnaeocbaaWKept
import Derived.Test.YtfibjclnaeocbaaWMore
import Derived.Test.YtfibjclnaeocbaaWLast
import Derived.Sort.OwnSortedInts
import Derived.Lib.SlicesCompact
set_option linter.unusedSimpArgs false
set_option linter.unusedVariables false
namespace Go.Proofs.Ytfibjclnaeocbaa.Hs
open Go.RowKit Go.Sort Go.Proofs.YtfibjclnaeocbaaW.PrintWords Go.Proofs.YtfibjclnaeocbaaW.PrintLast Go.Proofs.YtfibjclnaeocbaaW.PrintMore

theorem reps_int {k : IntKind} {P : World → Nat → (Nat → Prop) → Prop} {w : World} {base : Nat} {ok : Nat → Prop} {l : List Int} {cs : List Value} (h : Reps ((Kd.int k).M w base ok) 1 l cs) : cs = l.map (Value.int k) := by
  obtain ⟨h1, h2⟩ := h
  apply List.ext_getElem?
  intro j
  by_cases hj : j < l.length
  · have hp := h2 j l[j] (List.getElem?_eq_getElem hj)
    have hp' : (cs.drop (j * 1)).take 1 = [.int k l[j]] := hp
    rw [Nat.mul_one] at hp'
    have hc : j < cs.length := by omega
    rw [List.drop_eq_getElem_cons hc, List.take_succ_cons, List.take_zero] at hp'
    injection hp' with hp' _
    rw [List.getElem?_eq_getElem hc, List.getElem?_map, List.getElem?_eq_getElem hj, hp']; rfl
  · rw [List.getElem?_eq_none (by omega), List.getElem?_eq_none (by rw [List.length_map]; omega)]
theorem int_reps {k : IntKind} {w : World} {base : Nat} {ok : Nat → Prop} (l : List Int) : Reps ((Kd.int k).M w base ok) 1 l (l.map (Value.int k)) := by
  refine ⟨by simp, fun j p hp => ?_⟩
  obtain ⟨hj, rfl⟩ := List.getElem?_eq_some_iff.1 hp
  show ((l.map (Value.int k)).drop (j * 1)).take 1 = [.int k l[j]]
  rw [Nat.mul_one, List.drop_eq_getElem_cons (by simpa using hj), List.take_succ_cons, List.take_zero, List.getElem_map]
/-- A row of whole numbers of the call's own, laid open. -/
theorem row_open {e : Nat} {w : World} {base : Nat} {ok : Nat → Prop} {u : Value} {l : List Int} (h : Kd.R (Kd.int .i64) e w base ok u l) :
    (u = .slice none 0 0 ∧ l = []) ∨ ∃ g cap cur, u = .slice (some ⟨g, 0, none⟩) l.length cap ∧ base ≤ g ∧ ok g ∧ w.heap[g]? = some (.cells cur e (0, 0)) ∧ l.length ≤ cap ∧ cap ≤ maxLen ∧ cur.size = cap * 1 ∧ cur.toList.take l.length = l.map (Value.int .i64) := by
  obtain ⟨h0, inner, ho, hr⟩ := h
  have hi : inner = l.map (Value.int .i64) := reps_int (P := fun _ _ _ => True) hr
  rcases ho.2 with ⟨hv, hl⟩ | ⟨g, cap, cur, hv, hg, hh, h1, h2, h3, h4⟩
  · exact .inl ⟨hv, List.eq_nil_of_length_eq_zero hl⟩
  · refine .inr ⟨g, cap, cur, hv, hg, h0 g (by rw [hv]; rfl), hh, h1, h2, h3, ?_⟩
    have h5 : cur.toList.take (l.length * 1) = inner := h4
    rw [Nat.mul_one] at h5
    rw [h5, hi]
/-- .. and put together again, behind a write of the whole row. -/
theorem row_shut {e : Nat} {w : World} {base g cap n : Nat} {ok : Nat → Prop} {os : Array Obj} {cur : Array Value} {l ts r : List Int} (hl : ts.length = l.length) (hb : base ≤ g) (hok : ok g) (hh : w.heap[g]? = some (.cells cur e (0, 0)))
    (h1 : l.length ≤ cap) (h2 : cap ≤ maxLen) (h3 : cur.size = cap * 1) (hr : r.length ≤ ts.length) (hp : ts.take r.length = r) :
    Kd.R (Kd.int .i64) e (grow (putRow (Value.int .i64) (Sort.ahead w n) g 0 ts.toArray) os) base ok (.slice (some ⟨g, 0, none⟩) r.length cap) r := by
  refine ⟨fun k hk => ?_, r.map (Value.int .i64), ?_, int_reps r⟩
  · have : g = k := by simpa [Value.ownBlock] using hk
    subst this; exact hok
  · have ht := take_putCellsI cur ts (by omega)
    refine ⟨by show (r.map _).length = r.length * 1; simp, .inr ⟨g, cap, _, rfl, hb, heap_sortedI _ hh, by omega, h2, by show (putCells _ 0 ts.toArray cur).size = cap * 1; simp [putCells, h3], ?_⟩⟩
    show (putCells (Value.int .i64) 0 ts.toArray cur).toList.take (r.length * 1) = _
    rw [Nat.mul_one, show r.length = min r.length ts.length by omega, ← List.take_take, ht, ← List.map_take, hp]
theorem kept_of_grown {w w' : World} {g : Nat} {P : Nat → Prop} (hg : w.grownBy w' (some g)) (hP : P g) : Kept w w' P :=
  (Kept.refl w P).of_grown hg (fun k hk => by injection hk with hk; subst hk; exact .inl hP)
section
variable {P : Program} {f : FuncId} {e : Nat}
theorem sort_calls (hS : ∀ (blk off cap : Nat) (zs : List Int) (w : World), Holds (Value.int .i64) w blk off zs.toArray → blk < w.heap.size → zs.length < 4611686018427387904 →
      Calls P f #[.slice (some ⟨blk, off, none⟩) zs.length cap] w fun e w' => e = .returned (.tuple #[]) ∧ ∃ n os, w' = grow (putRow (Value.int .i64) (Sort.ahead w n) blk off (zs.mergeSort fun x y => decide (x ≤ y)).toArray) os)
    (hN : ∀ (p : Option Addr) (cap : Nat) (w : World), Calls P f #[.slice p 0 cap] w fun e w' => e = .returned (.tuple #[]) ∧ w' = w)
    (P0_ : Nat → Prop) (u : Value) (l r : List Int) (w0 w : World) (hB : Below w0.heap.size w0 w) (ho : Kd.R (Kd.int .i64) e w w0.heap.size P0_ u l) (hl : l.length < 4611686018427387904) (hr : r = l.mergeSort fun x y => decide (x ≤ y)) :
    Calls P f #[u] w fun e' w' => e' = .returned (.tuple #[]) ∧ Kd.R (Kd.int .i64) e w' w0.heap.size (fun k_ => (P0_ k_ ∨ w.heap.size ≤ k_)) u r ∧ Below w0.heap.size w0 w' ∧ Kept w w' (fun k_ => P0_ k_) := by
  have hlen : r.length = l.length := by rw [hr, List.length_mergeSort]
  rcases row_open ho with ⟨rfl, rfl⟩ | ⟨g, cap, cur, rfl, hb, hok, hh, h1, h2, h3, h4⟩
  · refine (hN none 0 w).mono fun e' w' h => ?_
    obtain ⟨rfl, rfl⟩ := h
    have : r = [] := List.eq_nil_of_length_eq_zero (by simpa using hlen)
    subst this
    exact ⟨rfl, Kd.R_nil _ _ _ _ _, hB, Kept.refl _ _⟩
  · have hg : g < w.heap.size := (Array.getElem?_eq_some_iff.1 hh).1
    refine (hS g 0 cap l w (holds_of_blockI hh h4) hg hl).mono fun e' w' h => ?_
    obtain ⟨rfl, n, os, rfl⟩ := h
    rw [← hr]
    have hgr := grownBy_sortedI (w := w) (g := g) (n := n) (os := os) r.toArray
    refine ⟨rfl, ?_, hB.grown hgr (below_size hB) (fun k hk => by injection hk with hk; omega), kept_of_grown hgr hok⟩
    have := row_shut (n := n) (os := os) (ok := fun k_ => (P0_ k_ ∨ w.heap.size ≤ k_)) (r := r) hlen hb (.inl hok) hh h1 h2 h3 (Nat.le_refl _) (by simp)
    rw [hlen] at this; exact this
theorem compact_calls (hC : ∀ (blk off cap : Nat) (zs : List Int) (w : World), Holds (Value.int .i64) w blk off zs.toArray → zs.length ≤ 9223372036854775807 → zs.length ≤ cap →
      Calls P f #[.slice (some ⟨blk, off, none⟩) zs.length cap] w fun e w' => e = .returned (.slice (some ⟨blk, off, none⟩) (Lib.compact zs).length cap) ∧ ∃ q, w' = putRow (Value.int .i64) (Sort.ahead w q) blk off (Lib.compact zs ++ List.replicate (zs.length - (Lib.compact zs).length) 0).toArray)
    (hN : ∀ (p : Option Addr) (cap : Nat) (w : World), Calls P f #[.slice p 0 cap] w fun e w' => e = .returned (.slice p 0 cap) ∧ w' = w)
    (P0_ : Nat → Prop) (u : Value) (l r : List Int) (w0 w : World) (hB : Below w0.heap.size w0 w) (ho : Kd.R (Kd.int .i64) e w w0.heap.size P0_ u l) (hr : r = Lib.compact l) :
    Calls P f #[u] w fun e' w' => ∃ v0_ : Value, e' = .returned (v0_) ∧ Kd.R (Kd.int .i64) e w' w0.heap.size (fun k_ => (P0_ k_ ∨ w.heap.size ≤ k_)) v0_ r ∧ Below w0.heap.size w0 w' ∧ Kept w w' (fun k_ => P0_ k_) := by
  have hlen : r.length ≤ l.length := by
    rw [hr]; unfold Lib.compact Lib.compactUpTo
    rw [List.length_map]
    exact Nat.le_trans (List.length_filter_le _ _) (by simp)
  rcases row_open ho with ⟨rfl, rfl⟩ | ⟨g, cap, cur, rfl, hb, hok, hh, h1, h2, h3, h4⟩
  · refine (hN none 0 w).mono fun e' w' h => ?_
    obtain ⟨rfl, rfl⟩ := h
    have : r = [] := List.eq_nil_of_length_eq_zero (by simpa using hlen)
    subst this
    exact ⟨_, rfl, Kd.R_nil _ _ _ _ _, hB, Kept.refl _ _⟩
  · have hg : g < w.heap.size := (Array.getElem?_eq_some_iff.1 hh).1
    refine (hC g 0 cap l w (holds_of_blockI hh h4) (Nat.le_trans h1 h2) h1).mono fun e' w' h => ?_
    obtain ⟨rfl, n, rfl⟩ := h
    rw [← hr]
    have hgr := grownBy_sortedI (w := w) (g := g) (n := n) (os := #[]) (r ++ List.replicate (l.length - r.length) 0).toArray
    have hts : (r ++ List.replicate (l.length - r.length) 0).length = l.length := by rw [List.length_append, List.length_replicate]; omega
    rw [← grow_empty (putRow _ _ _ _ _)]
    refine ⟨_, rfl, ?_, hB.grown hgr (below_size hB) (fun k hk => by injection hk with hk; omega), kept_of_grown hgr hok⟩
    exact row_shut (n := n) (os := #[]) (ok := fun k_ => (P0_ k_ ∨ w.heap.size ≤ k_)) (r := r) hts hb (.inl hok) hh h1 h2 h3 (by omega) (by simp)
end
end Go.Proofs.Ytfibjclnaeocbaa.Hs
