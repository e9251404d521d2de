/- The library's sort by a comparison, on a row of structs of the call's own whose keys are small and distinct: plain lemmas. -/
import Derived.Test.YtgbfbdeeaogigaaWWords
import Derived.Test.YtgbfbdeeaogigaaWKept
import Derived.Test.YtgbfbdeeaogigaaWMore
import Derived.Test.YtgbfbdeeaogigaaWLast
import Derived.Shelf.SlSortCmp.SmallK
set_option linter.unusedSimpArgs false
set_option linter.unusedVariables false
namespace Go.Proofs.Ytgbfbdeeaogigaa.Hf
open Go.RowKit Go.Sort Go.Proofs Go.Proofs.YtgbfbdeeaogigaaW.PrintWords Go.Proofs.YtgbfbdeeaogigaaW.PrintLast Go.Proofs.YtgbfbdeeaogigaaW.PrintMore

section
variable {S : Type} {k : Nat}
theorem div_at {j i : Nat} (h : i < k) : (j * k + i) / k = j := by
  rw [Nat.mul_comm, Nat.mul_add_div (by omega), Nat.div_eq_of_lt h]; omega
theorem mod_at {j i : Nat} (h : i < k) : (j * k + i) % k = i := by
  rw [Nat.mul_comm, Nat.mul_add_mod]; exact Nat.mod_eq_of_lt h
theorem holdsK {α : Type} [Inhabited α] {enc : α → List Value} {w : World} {g : Nat} {cur : Array Value} {e : TypeId} {la : List α} {inner : List Value} (hk : 0 < k) (he : ∀ x, (enc x).length = k) (hb : w.heap[g]? = some (.cells cur e (0, 0))) (ht : cur.toList.take (la.length * k) = inner)
    (hr : ∀ (j : Nat) (h : j < la.length), (inner.drop (j * k)).take k = enc la[j]) : HoldsK enc k w g 0 la.toArray := by
  intro t htl
  rw [size_flatK] at htl
  have ht2 : t < la.length * k := by simpa using htl
  have hq : t / k < la.length := (Nat.div_lt_iff_lt_mul hk).2 ht2
  have hm : t % k < k := Nat.mod_lt _ hk
  refine ⟨?_, by simp [World.frozen?, hb]⟩
  rw [get_flatK _ _ _ _ htl]
  have e1 : cur[t]? = inner[t]? := by rw [← ht, List.getElem?_take_of_lt ht2, Array.getElem?_toList]
  have e2 : inner[t]? = (enc la[t / k])[t % k]? := by
    rw [← hr (t / k) hq, List.getElem?_take_of_lt hm, List.getElem?_drop]
    have := Nat.div_add_mod t k
    rw [Nat.mul_comm] at this
    rw [this]
  have hml : t % k < (enc la[t / k]).length := by rw [he]; exact hm
  simp only [World.cell?, hb, Nat.zero_add]
  simp only [Option.isSome_none, Bool.false_eq_true, if_false]
  rw [e1, e2]
  simp [hq, hml]
theorem take_put (cur F : Array Value) (h : F.size ≤ cur.size) : (putCells id 0 F cur).toList.take F.size = F.toList := by
  apply List.ext_getElem?
  intro j
  by_cases hj : j < F.size
  · rw [List.getElem?_take_of_lt hj, Array.getElem?_toList, Array.getElem?_toList]
    simp [putCells, hj, show j < cur.size by omega]
  · rw [List.getElem?_take_eq_none (by omega), List.getElem?_eq_none (by simp; omega)]
theorem heap_put {w : World} {g n : Nat} {os : Array Obj} {cur : Array Value} {e : TypeId} {fr : Nat × Nat} (d : Array Value) (hb : w.heap[g]? = some (.cells cur e fr)) :
    (grow (putRow id (Sort.ahead w n) g 0 d) os).heap[g]? = some (.cells (putCells id 0 d cur) e fr) := by
  have hg : g < w.heap.size := (Array.getElem?_eq_some_iff.1 hb).1
  rw [heap_grow_old _ _ (by simpa using hg)]
  simp [putRow, mapBlock, Sort.ahead, Array.getElem?_modify, hb, onCells]
theorem grown_put {w : World} {g n : Nat} {os : Array Obj} (d : Array Value) : w.grownBy (grow (putRow id (Sort.ahead w n) g 0 d) os) (some g) := by
  refine ⟨rfl, rfl, rfl, by simp, fun k hk hne => ?_⟩
  rw [heap_grow_old _ _ (by simpa using hk)]
  have : g ≠ k := fun e => hne (by rw [e])
  simp [putRow, mapBlock, Sort.ahead, Array.getElem?_modify, this]
/-- The cells of the whole row: element j's are its own. -/
theorem flat_at {α : Type} [Inhabited α] {enc : α → List Value} (he : ∀ x, (enc x).length = k) (d : Array α) (j : Nat) (h : j < d.size) : ((flatK enc k d).toList.drop (j * k)).take k = enc d[j] := by
  apply List.ext_getElem?
  intro i
  by_cases hi : i < k
  · have hb : j * k + i < d.size * k := by
      have : (j + 1) * k ≤ d.size * k := Nat.mul_le_mul_right _ h
      rw [Nat.succ_mul] at this; omega
    rw [List.getElem?_take_of_lt hi, List.getElem?_drop, Array.getElem?_toList]
    have h1 := get_flatK enc k d (j * k + i) hb
    rw [div_at hi, mod_at hi] at h1
    have hs : j * k + i < (flatK enc k d).size := by rw [size_flatK]; exact hb
    have hl : i < (enc d[j]).length := by rw [he]; exact hi
    rw [Array.getElem?_eq_getElem hs, List.getElem?_eq_getElem hl]
    rw [getElem!_pos (flatK enc k d) (j * k + i) hs, getElem!_pos d j h, getElem!_pos (enc d[j]) i hl] at h1
    rw [h1]
  · rw [List.getElem?_take_eq_none (by omega), List.getElem?_eq_none (by rw [he]; omega)]
/-- Two strictly ascending lists with the same members are one. -/
theorem strict_uniq (key : S → Int) : ∀ {a b : List S}, a.Pairwise (fun x y => key x < key y) → b.Pairwise (fun x y => key x < key y) → a.Perm b → a = b
  | [], b, _, _, h => h.nil_eq
  | x :: a, [], _, _, h => absurd h.length_eq (by simp)
  | x :: a, y :: b, ha, hb, h => by
    obtain ⟨a1, a2⟩ := List.pairwise_cons.1 ha
    obtain ⟨b1, b2⟩ := List.pairwise_cons.1 hb
    have e : x = y := by
      rcases List.mem_cons.1 (h.mem_iff.1 List.mem_cons_self) with e | h1
      · exact e
      · rcases List.mem_cons.1 (h.mem_iff.2 (List.mem_cons_self (a := y) (l := b))) with e | h2
        · exact e.symm
        · have := a1 y h2; have := b1 x h1; omega
    subst e
    rw [strict_uniq key a2 b2 h.cons_inv]
def sortBy (key : S → Int) (l : List S) : List S := l.mergeSort fun x y => decide (key x ≤ key y)
theorem sort_uniq (key : S → Int) {a l : List S} (hp : a.Perm l) (hd : l.Pairwise fun x y => key x ≠ key y) (hs : a.Pairwise fun x y => key x ≤ key y) : a = sortBy key l := by
  have hq : (sortBy key l).Perm l := List.mergeSort_perm _ _
  have hs2 : (sortBy key l).Pairwise fun x y => key x ≤ key y := (List.pairwise_mergeSort (le := fun x y => decide (key x ≤ key y)) (fun a b c h1 h2 => by simp at h1 h2 ⊢; omega) (fun a b => by simp; omega) l).imp (fun h => by simpa using h)
  have hn : ∀ {m : List S}, m.Perm l → m.Pairwise fun x y => key x ≠ key y := fun hm => (hm.pairwise_iff (R := fun x y => key x ≠ key y) (fun h e => h e.symm)).2 hd
  exact strict_uniq key (((hn hp).and hs).imp fun h => by omega) (((hn hq).and hs2).imp fun h => by omega) (hp.trans hq.symm)
end
/-- What has a small key. -/
abbrev Keyed {S : Type} (key : S → Int) : Type := { x : S // 0 ≤ key x ∧ key x ≤ 255 }
theorem keyed_of {S : Type} {key : S → Int} : ∀ {l : List S}, (∀ x ∈ l, 0 ≤ key x ∧ key x ≤ 255) → ∃ la : List (Keyed key), la.map Subtype.val = l
  | [], _ => ⟨[], rfl⟩
  | x :: l, h => by
    obtain ⟨la, e⟩ := keyed_of (l := l) fun y hy => h y (List.mem_cons_of_mem _ hy)
    exact ⟨⟨x, h x List.mem_cons_self⟩ :: la, by rw [List.map_cons, e]⟩
section
variable {P : Program} {f : FuncId} {e : Nat} {S : Type} {d : Kd S} {key : S → Int} [Inhabited (Keyed key)]
theorem sortf_calls (enc : S → List Value) (he : ∀ x, (enc x).length = d.sz) (hs0 : 0 < d.sz) (ho : ∀ {w x cs}, d.K w x cs → cs = enc x) (hm : ∀ w base ok x, d.M w base ok x (enc x)) (fv : Value)
    (hS : ∀ (blk cap : Nat) (dd : Array (Keyed key)) (w : World), HoldsK (fun x => enc x.val) d.sz w blk 0 dd → blk < w.heap.size → dd.size ≤ 12 → Calls P f #[.slice (some ⟨blk, 0, none⟩) dd.size cap, fv] w fun e w' => e = .returned (.tuple #[]) ∧ ∃ d' n os, PermIn 0 dd.size dd d' ∧ SortedIn (ltOf fun x y : Keyed key => key x.val - key y.val) 0 dd.size d' ∧ w' = sortWorldK (fun x => enc x.val) d.sz w blk 0 n d' os)
    (P0_ : Nat → Prop) (u : Value) (l r : List S) (w0 w : World) (hB : Below w0.heap.size w0 w) (hR : d.R e w w0.heap.size P0_ u l) (hc : 0 < l.length ∧ l.length ≤ 12 ∧ (∀ x ∈ l, 0 ≤ key x ∧ key x ≤ 255) ∧ l.Pairwise fun x y => key x ≠ key y) (hr : r = sortBy key l) :
    Calls P f #[u, fv] w fun e' w' => e' = .returned (.tuple #[]) ∧ d.R e w' w0.heap.size (fun k_ => (P0_ k_ ∨ w.heap.size ≤ k_)) u r ∧ Below w0.heap.size w0 w' ∧ Kept w w' (fun k_ => P0_ k_) := by
  obtain ⟨hn, h12, hrg, hd⟩ := hc
  obtain ⟨la, hla⟩ := keyed_of hrg
  have hll : la.length = l.length := by rw [← hla, List.length_map]
  obtain ⟨h0, inner, hown, hrep⟩ := hR
  rcases hown.2 with ⟨hv, hz⟩ | ⟨g, cap, cur, rfl, hg, hh, h1, h2, h3, h4⟩
  · omega
  have hgl : g < w.heap.size := (Array.getElem?_eq_some_iff.1 hh).1
  have hok : P0_ g := h0 g rfl
  have hH : HoldsK (fun x : Keyed key => enc x.val) d.sz w g 0 la.toArray := holdsK (inner := inner) hs0 (fun x => he _) hh (by rw [hll]; exact h4) (fun j hj => by
    have := hrep.2 j (l[j]'(by omega)) (List.getElem?_eq_getElem (by omega))
    rw [ho (d.K_of_M this)]
    congr 1
    simp [← hla])
  have hsz : la.toArray.size = l.length := by simp [hll]
  have hcall := hS g cap la.toArray w hH hgl (by omega)
  rw [hsz] at hcall
  refine hcall.mono fun e' w' h => ?_
  obtain ⟨rfl, d', n, os, hp, hs, rfl⟩ := h
  obtain ⟨hpz, _, hperm⟩ := hp
  rw [hsz] at hpz
  have ex1 : d'.extract 0 l.length = d' := by rw [← hpz]; simp
  have ex2 : la.toArray.extract 0 l.length = la.toArray := by rw [← hsz]; simp
  rw [ex1, ex2] at hperm
  have hrr : d'.toList.map Subtype.val = r := by
    rw [hr]
    refine sort_uniq key (by have := hperm.map Subtype.val; rwa [List.toList_toArray, hla] at this) hd ?_
    rw [List.pairwise_map, List.pairwise_iff_getElem]
    intro i j hi hj hij
    have := hs i j (Nat.zero_le _) hij (by simpa [hpz] using hj)
    have hi' : i < d'.size := by simpa using hi
    have hj' : j < d'.size := by simpa using hj
    rw [getElem!_pos d' i hi', getElem!_pos d' j hj'] at this
    simp only [ltOf, decide_eq_false_iff_not] at this
    simp only [Array.getElem_toList]
    omega
  have hlr : r.length = l.length := by rw [← hrr, List.length_map, Array.length_toList, hpz]
  have hgr : w.grownBy (sortWorldK (fun x : Keyed key => enc x.val) d.sz w g 0 n d' os) (some g) := grown_put _
  refine ⟨rfl, ⟨fun k hk => ?_, (flatK (fun x : Keyed key => enc x.val) d.sz d').toList, ?_, ?_⟩, hB.grown hgr (below_size hB) (fun k hk => by injection hk with hk; omega), (Kept.refl w _).of_grown hgr (fun k hk => by injection hk with hk; subst hk; exact .inl hok)⟩
  · have : g = k := by simpa [Value.ownBlock] using hk
    subst this; exact .inl hok
  · have hfs : (flatK (fun x : Keyed key => enc x.val) d.sz d').size = l.length * d.sz := by rw [size_flatK, hpz]
    refine ⟨by rw [Array.length_toList, hfs, hlr], .inr ⟨g, cap, _, by rw [hlr], hg, heap_put _ hh, by omega, h2, by simp [putCells, h3], ?_⟩⟩
    have hcs : (flatK (fun x : Keyed key => enc x.val) d.sz d').size ≤ cur.size := by rw [hfs, h3]; exact Nat.mul_le_mul_right _ h1
    have := take_put cur _ hcs
    rw [hfs] at this
    rw [hlr]
    exact this
  · refine ⟨by rw [Array.length_toList, size_flatK, hpz, hlr], fun j x hj => ?_⟩
    obtain ⟨hjl, hjx⟩ := List.getElem?_eq_some_iff.1 hj
    have hjd : j < d'.size := by omega
    rw [flat_at (fun x => he _) d' j hjd]
    have : (d'[j]'hjd).val = x := by rw [← hjx]; simp [← hrr]
    rw [this]
    exact hm _ _ _ _
end
end Go.Proofs.Ytgbfbdeeaogigaa.Hf
