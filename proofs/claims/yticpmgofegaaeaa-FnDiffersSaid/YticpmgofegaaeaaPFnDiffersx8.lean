-- WRITTEN by pp.py, this session's own wrapper around the print; not trusted: Lean checks it
import Derived.Test.YticpmgofegaaeaaPFnDiffersx0
namespace Go.Proofs.Yticpmgofegaaeaa.PFnDiffers
open Go.RowKit Go.Proofs.Yticpmgofegaaeaa.Hw Go.Proofs.YticpmgofegaaeaaW.PrintWords Go.Proofs.YticpmgofegaaeaaW.PrintLast Go.Proofs.YticpmgofegaaeaaW.PrintMore
attribute [local go_sem] max2_int min2_int max_two min_two max_three min_three max_four min_four   -- for this text's walks alone
set_option linter.unusedVariables false
set_option linter.unusedSimpArgs false
set_option linter.unusedSectionVars false

/-! ### laws_big: function 13 -/
def laws_big.f (l0 : List Int) : Option (Bool) := some (decide ((l0.length : Int) > 1048576))
set_option maxHeartbeats 8000000 in
set_option maxRecDepth 100000 in
theorem laws_big.calls (A0 : Option Addr) (c0 : Nat) (l0 : List Int) (r : Bool) (w : World) (hr0 : Kd.C (Kd.int .u8) w A0 l0.length l0) (hc0 : l0.length ≤ c0) (h : laws_big.f l0 = some r) :
  Calls Try.prog 13 #[.slice A0 l0.length c0] w fun e w' => e = .returned (.bool r) ∧ Drawn0 w w' := by
 have HR0 := Aside0.mk hr0
 have HC0 := Aside0.mk hc0
 clear hr0 hc0
 have H : (some (decide ((l0.length : Int) > 1048576))) = some r := h
 clear h
 obtain rfl := Option.some.inj H
 go_enter Try.func13, Try.ntmps13
 go_wp2
 go_ret
 exact ⟨by first | rfl | (simp; done) | (simp [*]; done), by repeat (first | exact Drawn0.refl _ | apply Drawn0.step)⟩

/-- A state of type 78 at block g of W; what its slices lead to came in by w0. -/
def IsS78 (w0 W : World) (g : Nat) (f0 : List Int) (f1 : Int) (f2 : Int) : Prop := ∃ A0 c0, W.heap[g]? = some (.cells #[.slice A0 f0.length c0, .int .i64 f1, .int .i64 f2] 78 (0, 0)) ∧ w0.heap.size ≤ g ∧ Kd.C (Kd.int .u8) w0 A0 f0.length f0
theorem IsS78.grown {w0 W : World} {g : Nat} {f0 : List Int} {f1 : Int} {f2 : Int} {W1 : World} {row : Option Nat} (h : IsS78 w0 W g f0 f1 f2) (hw : W.grownBy W1 row) (hne : some g ≠ row) : IsS78 w0 W1 g f0 f1 f2 := by
 obtain ⟨A0, c0, hb, hg, hr0⟩ := h
 exact ⟨A0, c0, blk_grown hb hw hne, hg, hr0⟩
theorem IsS78.own_neN {w0 W : World} {g : Nat} {f0 : List Int} {f1 : Int} {f2 : Int} {α : Type} {d : Kd α} {e : Nat} {base : Nat} {ok : Nat → Prop} {v : Value} {xs : List α} (h : IsS78 w0 W g f0 f1 f2) (ho : Kd.N d e W base ok v xs) (ht : e ≠ 78) : some g ≠ v.ownBlock := by
 obtain ⟨A0, c0, hb, hg, hr0⟩ := h
 exact Kd.N_ne ho hb ht
theorem IsS78.fresh {w0 W : World} {g : Nat} {f0 : List Int} {f1 : Int} {f2 : Int} (h : IsS78 w0 W g f0 f1 f2) : ∀ k, W.heap.size ≤ k → k ≠ g := by
 obtain ⟨A0, c0, hb, hg, hr0⟩ := h
 exact Kd.freshB hb
theorem IsS78.kept {w0 W : World} {g : Nat} {f0 : List Int} {f1 : Int} {f2 : Int} {W1 : World} {S : Nat → Prop} (h : IsS78 w0 W g f0 f1 f2) (hk : Kept W W1 S) (hne : ¬ S g) : IsS78 w0 W1 g f0 f1 f2 := by
 obtain ⟨A0, c0, hb, hg, hr0⟩ := h
 exact ⟨A0, c0, blk_kept hb hk hne, hg, hr0⟩
theorem IsS78.below {w0 W : World} {g : Nat} {f0 : List Int} {f1 : Int} {f2 : Int} {W1 : World} (h : IsS78 w0 W g f0 f1 f2) (hw : Below W.heap.size W W1) : IsS78 w0 W1 g f0 f1 f2 := h.grown (grown_of_below hw none) (by simp)
theorem IsS78.alloc {w0 W : World} {g : Nat} {f0 : List Int} {f1 : Int} {f2 : Int} (h : IsS78 w0 W g f0 f1 f2) (o : Obj) : IsS78 w0 (W.alloc o) g f0 f1 f2 := h.below (below_alloc (Below.refl _ _) o)
theorem IsS78.drewN {w0 W : World} {g : Nat} {f0 : List Int} {f1 : Int} {f2 : Int} (h : IsS78 w0 W g f0 f1 f2) (m : Nat) : IsS78 w0 (W.drewN m) g f0 f1 f2 := h
theorem IsS78.drew {w0 W : World} {g : Nat} {f0 : List Int} {f1 : Int} {f2 : Int} (h : IsS78 w0 W g f0 f1 f2) : IsS78 w0 W.drew g f0 f1 f2 := h
theorem IsS78.at_ {w0 W : World} {g : Nat} {f0 : List Int} {f1 : Int} {f2 : Int} {w' : World} {m : Nat} (hq : W.drewN m = w') (h : IsS78 w0 W g f0 f1 f2) : IsS78 w0 w' g f0 f1 f2 := by subst hq; exact IsS78.drewN h m
theorem IsS78.apart {w0 W : World} {g : Nat} {f0 : List Int} {f1 : Int} {f2 : Int} {α : Type} {d : Kd α} {e : Nat} {base : Nat} {ok : Nat → Prop} {v : Value} {xs : List α} (h : IsS78 w0 W g f0 f1 f2) (ho : d.R e W base ok v xs) (ht : ∀ q, q ∈ e :: d.E → q ≠ 78) : d.R e W base (fun k => ok k ∧ k ≠ g) v xs := by
 obtain ⟨A0, c0, hb, hg, hr0⟩ := h
 exact Kd.R_types ho hb ht
theorem IsS78.own_ne {w0 W : World} {g : Nat} {f0 : List Int} {f1 : Int} {f2 : Int} {α : Type} {d : Kd α} {e : Nat} {base : Nat} {ok : Nat → Prop} {v : Value} {xs : List α} (h : IsS78 w0 W g f0 f1 f2) (ho : d.R e W base ok v xs) (ht : e ≠ 78) : some g ≠ v.ownBlock := by
 obtain ⟨A0, c0, hb, hg, hr0⟩ := h
 exact Kd.R_ne ho hb ht
theorem IsS78.apartQ {w0 W : World} {g : Nat} {f0 : List Int} {f1 : Int} {f2 : Int} {α : Type} {d : Kd α} {e : Nat} {base : Nat} {ok : Nat → Prop} {v : Value} {xs : List α} (h : IsS78 w0 W g f0 f1 f2) (ho : d.Q e W base ok v xs) (ht : ∀ q, q ∈ e :: d.E → q ≠ 78) : d.Q e W base (fun k => ok k ∧ k ≠ g) v xs := by
 obtain ⟨A0, c0, hb, hg, hr0⟩ := h
 exact Kd.Q_types ho hb ht
theorem IsS78.own_neQ {w0 W : World} {g : Nat} {f0 : List Int} {f1 : Int} {f2 : Int} {α : Type} {d : Kd α} {e : Nat} {base : Nat} {ok : Nat → Prop} {v : Value} {xs : List α} (h : IsS78 w0 W g f0 f1 f2) (ho : d.Q e W base ok v xs) (ht : e ≠ 78) : some g ≠ v.ownBlock := by
 obtain ⟨A0, c0, hb, hg, hr0⟩ := h
 exact Kd.Q_ne ho hb ht
theorem IsS78.apartS {w0 W : World} {g : Nat} {f0 : List Int} {f1 : Int} {f2 : Int} {α : Type} {d : Kd α} {e : Nat} {base : Nat} {ok : Nat → Prop} {v : Value} {xs : List α} (h : IsS78 w0 W g f0 f1 f2) (ho : d.S e W base ok v xs) (ht : ∀ q, q ∈ e :: d.E → q ≠ 78) : d.S e W base (fun k => ok k ∧ k ≠ g) v xs := by
 obtain ⟨A0, c0, hb, hg, hr0⟩ := h
 exact Kd.S_types ho hb ht
theorem IsS78.own_neS {w0 W : World} {g : Nat} {f0 : List Int} {f1 : Int} {f2 : Int} {α : Type} {d : Kd α} {e : Nat} {base : Nat} {ok : Nat → Prop} {v : Value} {xs : List α} (h : IsS78 w0 W g f0 f1 f2) (ho : d.S e W base ok v xs) (ht : e ≠ 78) : some g ≠ v.ownBlock := by
 obtain ⟨A0, c0, hb, hg, hr0⟩ := h
 exact Kd.S_ne ho hb ht
theorem IsS78.lt {w0 W : World} {g : Nat} {f0 : List Int} {f1 : Int} {f2 : Int} (h : IsS78 w0 W g f0 f1 f2) : g < W.heap.size := by
 obtain ⟨A0, c0, hb, hg, hr0⟩ := h
 exact blk_lt hb
theorem IsS78.ge {w0 W : World} {g : Nat} {f0 : List Int} {f1 : Int} {f2 : Int} (h : IsS78 w0 W g f0 f1 f2) : w0.heap.size ≤ g := by
 obtain ⟨A0, c0, hb, hg, hr0⟩ := h
 exact hg
theorem IsS78.ne_blk {w0 W : World} {g : Nat} {f0 : List Int} {f1 : Int} {f2 : Int} {a : Nat} {cs : Array Value} {t : TypeId} {fr : Nat × Nat} (h : IsS78 w0 W g f0 f1 f2) (hb2 : W.heap[a]? = some (.cells cs t fr)) (ht : t ≠ 78) : g ≠ a := by
 obtain ⟨A0, c0, hb, hg, hr0⟩ := h
 rintro rfl
 rw [hb] at hb2
 injection hb2 with hb2
 injection hb2 with _ ht2
 exact ht ht2.symm
theorem IsS78.far {w0 W : World} {g : Nat} {f0 : List Int} {f1 : Int} {f2 : Int} {p : Addr} (h : IsS78 w0 W g f0 f1 f2) (hne : g ≠ p.block) (u : Value) : IsS78 w0 (W.setCell p u) g f0 f1 f2 := by
 obtain ⟨A0, c0, hb, hg, hr0⟩ := h
 exact ⟨A0, c0, blk_far hb hne u, hg, hr0⟩
theorem cellS78_0 {W : World} {g : Nat} {A0 : Option Addr} {c0 : Nat} {f0 : List Int} {f1 : Int} {f2 : Int} (h : W.heap[g]? = some (.cells #[.slice A0 f0.length c0, .int .i64 f1, .int .i64 f2] 78 (0, 0))) : W.cell? ⟨g, 0, none⟩ = some (.slice A0 f0.length c0) := (blk_cell h 0).trans rfl
theorem cellS78_1 {W : World} {g : Nat} {A0 : Option Addr} {c0 : Nat} {f0 : List Int} {f1 : Int} {f2 : Int} (h : W.heap[g]? = some (.cells #[.slice A0 f0.length c0, .int .i64 f1, .int .i64 f2] 78 (0, 0))) : W.cell? ⟨g, 1, none⟩ = some (.int .i64 f1) := (blk_cell h 1).trans rfl
theorem IsS78.set_1 {w0 W : World} {g : Nat} {f0 : List Int} {f1 : Int} {f2 : Int} (h : IsS78 w0 W g f0 f1 f2) (x : Int) : IsS78 w0 (W.setCell ⟨g, 1, none⟩ (.int .i64 x)) g f0 x f2 := by
 obtain ⟨A0, c0, hb, hg, hr0⟩ := h
 exact ⟨A0, c0, by simpa using blk_set hb 1 (.int .i64 x), hg, hr0⟩
theorem cellS78_2 {W : World} {g : Nat} {A0 : Option Addr} {c0 : Nat} {f0 : List Int} {f1 : Int} {f2 : Int} (h : W.heap[g]? = some (.cells #[.slice A0 f0.length c0, .int .i64 f1, .int .i64 f2] 78 (0, 0))) : W.cell? ⟨g, 2, none⟩ = some (.int .i64 f2) := (blk_cell h 2).trans rfl
theorem IsS78.set_2 {w0 W : World} {g : Nat} {f0 : List Int} {f1 : Int} {f2 : Int} (h : IsS78 w0 W g f0 f1 f2) (x : Int) : IsS78 w0 (W.setCell ⟨g, 2, none⟩ (.int .i64 x)) g f0 f1 x := by
 obtain ⟨A0, c0, hb, hg, hr0⟩ := h
 exact ⟨A0, c0, by simpa using blk_set hb 2 (.int .i64 x), hg, hr0⟩
theorem IsS78.new (w0 W : World) (A0 : Option Addr) (c0 : Nat) (f0 : List Int) (f1 : Int) (f2 : Int) (hB : Below w0.heap.size w0 W) (hr0 : Kd.C (Kd.int .u8) w0 A0 f0.length f0) : IsS78 w0 (W.alloc (.cells #[.slice A0 f0.length c0, .int .i64 f1, .int .i64 f2] 78)) W.heap.size f0 f1 f2 := ⟨A0, c0, by simpa using heap_alloc_new W _, hB.size, hr0⟩

/-! ### spec_l1New: function 50 -/
def spec_l1New.l0 : Nat → List Int → Int → Int → Option (List Int × Int × Int)
 | 0, _, _, _ => none
 | k + 1, x0, x3, x4 => if x4 < (x0.length : Int) then (if x4 < 4000 then (if 0 ≤ x4 then (spec_l1New.l0 k x0 (Go.bits .and .i64 (wrap64 ((wrap64 ((wrap64 (x3 * 137)) + (wrap64 (rd x0 x4)))) + 11)) 1073741823) (wrap64 (x4 + 1))) else (none)) else (some (x0, 0, x3))) else (some (x0, 0, x3))
def spec_l1New.f (k : Nat) (l0 : List Int) : Option (List Int × Int × Int) := spec_l1New.l0 k l0 (wrap64 (193017 + (l0.length : Int))) 0
theorem spec_l1New.mono_l : ∀ k, (∀ y0 y1 y2, LeO (spec_l1New.l0 k y0 y1 y2) (spec_l1New.l0 (k + 1) y0 y1 y2))
 | 0 => fun _ _ _ r h => by simp [spec_l1New.l0] at h
 | k + 1 => by
  have ih0 := spec_l1New.mono_l k
  ·intro y0 y1 y2
   unfold spec_l1New.l0
   repeat' first
   | (with_reducible exact ih0 _ _ _)
   | (with_reducible exact LeO.refl _)
   | (with_reducible exact LeO.none _)
   | (with_reducible refine LeO.ite ?_ ?_)
   | (with_reducible refine LeO.bind ?_ (fun _ => ?_))
   | exact ih0 _ _ _
   | exact LeO.none _
   | refine LeO.ite ?_ ?_
   | refine LeO.bind ?_ (fun _ => ?_)
theorem spec_l1New.mono : ∀ a0 k, LeO (spec_l1New.f k a0) (spec_l1New.f (k + 1) a0) := by
 intro a0 k
 have ih0 := spec_l1New.mono_l k
 unfold spec_l1New.f
 repeat' first
   | (with_reducible exact ih0 _ _ _)
   | (with_reducible exact LeO.refl _)
   | (with_reducible exact LeO.none _)
   | (with_reducible refine LeO.ite ?_ ?_)
   | (with_reducible refine LeO.bind ?_ (fun _ => ?_))
   | exact ih0 _ _ _
   | exact LeO.none _
   | refine LeO.ite ?_ ?_
   | refine LeO.bind ?_ (fun _ => ?_)
set_option maxHeartbeats 8000000 in
set_option maxRecDepth 100000 in
theorem spec_l1New.calls (k : Nat) (A0 : Option Addr) (c0 : Nat) (l0 : List Int) (r1 : List Int) (r2 : Int) (r3 : Int) (w0 w : World) (hB : Below w0.heap.size w0 w) (hr0 : Kd.C (Kd.int .u8) w0 A0 l0.length l0) (hc0 : l0.length ≤ c0) (h : spec_l1New.f k l0 = some (r1, r2, r3)) :
  Calls Try.prog 50 #[.slice A0 l0.length c0] w fun e w' => ∃ g_ : Nat, e = .returned (.pointer (some ⟨g_, 0, none⟩)) ∧ IsS78 w0 w' g_ r1 r2 r3 ∧ Below w0.heap.size w0 w' ∧ Below w.heap.size w w' := by
 have hu78 := Try.underlying78
 have HR0 := Aside0.mk hr0
 have HC0 := Aside0.mk hc0
 clear hr0 hc0
 have HBW := Aside0.mk (Below.refl w.heap.size w)
 have HW0 := Aside0.mk hB.size
 have HB := Aside0.mk hB
 clear hB
 have H : (spec_l1New.l0 k l0 (wrap64 (193017 + (l0.length : Int))) 0) = some (r1, r2, r3) := h
 clear h
 have H' := Aside0.mk H
 clear H
 go_enter Try.func50, Try.ntmps50
 go_wp2
 go_loopg [3, 4] k (fun kq v3 v4 w' => ∃ (x3_1 : Int) (x4_1 : Int), v3 = .int .i64 x3_1 ∧ v4 = .int .i64 x4_1 ∧ Aside0 (spec_l1New.l0 kq l0 x3_1 x4_1 = some (r1, r2, r3)) ∧ Aside0 (kq ≤ k) ∧ Aside0 (Below w0.heap.size w0 w') ∧ Aside0 (Below w.heap.size w w'))
 case atStart => exact ⟨(wrap64 (193017 + (l0.length : Int))), (0), zF, zF, H', ⟨Nat.le_refl _⟩, ⟨zB HB⟩, ⟨zB HBW⟩⟩
 case round =>
  clear H'
  obtain ⟨x3_1, x4_1, rfl, rfl, HA, HK1, HB, HBW⟩ := hrel
  cases gk with
  | zero => exact absurd HA.out (by simp [spec_l1New.l0])
  | succ k1 =>
   have H := HA.out
   clear HA
   simp only [spec_l1New.l0] at H
   by_cases c2 : x4_1 < (l0.length : Int)
   ·rw [if_pos c2] at H
    have c2b0 : decide (x4_1 < (l0.length : Int)) = true := decide_eq_true c2
    clear c2
    by_cases c3 : x4_1 < 4000
    ·rw [if_pos c3] at H
     have c3b0 : decide (x4_1 < 4000) = true := decide_eq_true c3
     clear c3
     obtain ⟨c4, H⟩ := ifS H
     have c4b0 : decide (0 ≤ x4_1) = true := decide_eq_true c4
     clear c4
     have H' := Aside0.mk H
     clear H
     have p272 : 0 ≤ (x4_1 : Int) := zD
     have q272 : x4_1 < (l0.length : Int) := zD
     obtain ⟨ad272, e272, hx272_0⟩ := Kd.at_int HR0.out x4_1 p272 q272
     cases e272
     replace hx272_0 := pw_cell_below HB.out hx272_0
     replace p272 := eq_true p272
     replace q272 := eq_true q272
     go_wp2
     go_roundg k1
     case measure => have := HK1.out; omega
     case rel => exact ⟨(Go.bits .and .i64 (wrap64 ((wrap64 ((wrap64 (x3_1 * 137)) + (wrap64 (rd l0 x4_1)))) + 11)) 1073741823), (wrap64 (x4_1 + 1)), zF, zF, H', ⟨by have := HK1.out; omega⟩, ⟨zB HB⟩, ⟨zB HBW⟩⟩
    ·rw [if_neg c3] at H
     have c3b0 : decide (x4_1 < 4000) = false := decide_eq_false c3
     clear c3
     simp only [Option.some.injEq, Prod.mk.injEq] at H
     obtain ⟨rfl, rfl, rfl⟩ := H
     go_wp2_with (first | ((with_reducible refine gate_dst (N := 31) rfl ?_); refine box_event ?hg (N := 31) ?hd (cs := #[.slice A0 l0.length c0, .int .i64 0, .int .i64 x3_1]) (t := 78) ?hr ?_; (case hd => rfl); (case hg => rfl); (case hr => first | (go_simp; done) | (go_simp; rfl)); intro gb273 hg w5 hbox hb; replace HB := bS HB hb; have BK273 := Aside0.mk (hbox); have GW273 := gS HBW hg; have GE273 := Aside0.mk ((Nat.le_trans HW0.out (by rw [hg]; exact (below_size (zB HBW)) : w.heap.size ≤ gb273) : w0.heap.size ≤ gb273)); replace HBW := Aside0.mk (below_step HBW.out hb); clear hb hbox hg))
     go_ret
     exact ⟨_, rfl, (show IsS78 w0 _ gb273 l0 0 x3_1 from ⟨_, _, by (with_reducible repeat (first | refine blk_drewN ?_ _ | refine blk_drew ?_ | refine blk_alloc ?_ _)); exact BK273.out, GE273.out, HR0.out⟩), zB HB, zB HBW⟩
   ·rw [if_neg c2] at H
    have c2b0 : decide (x4_1 < (l0.length : Int)) = false := decide_eq_false c2
    clear c2
    simp only [Option.some.injEq, Prod.mk.injEq] at H
    obtain ⟨rfl, rfl, rfl⟩ := H
    go_wp2_with (first | ((with_reducible refine gate_dst (N := 31) rfl ?_); refine box_event ?hg (N := 31) ?hd (cs := #[.slice A0 l0.length c0, .int .i64 0, .int .i64 x3_1]) (t := 78) ?hr ?_; (case hd => rfl); (case hg => rfl); (case hr => first | (go_simp; done) | (go_simp; rfl)); intro gb274 hg w6 hbox hb; replace HB := bS HB hb; have BK274 := Aside0.mk (hbox); have GW274 := gS HBW hg; have GE274 := Aside0.mk ((Nat.le_trans HW0.out (by rw [hg]; exact (below_size (zB HBW)) : w.heap.size ≤ gb274) : w0.heap.size ≤ gb274)); replace HBW := Aside0.mk (below_step HBW.out hb); clear hb hbox hg))
    go_ret
    exact ⟨_, rfl, (show IsS78 w0 _ gb274 l0 0 x3_1 from ⟨_, _, by (with_reducible repeat (first | refine blk_drewN ?_ _ | refine blk_drew ?_ | refine blk_alloc ?_ _)); exact BK274.out, GE274.out, HR0.out⟩), zB HB, zB HBW⟩

/-! ### spec_l1Byte: function 67 -/
def spec_l1Byte.f (s0_0 : List Int) (s0_1 : Int) (s0_2 : Int) : Option (Int × Int × Int) := if s0_1 < (s0_0.length : Int) then (if 0 ≤ s0_1 then (some (Go.bits .and .i64 (wrap64 ((Go.bits .and .i64 (Go.bits .xor .i64 ((wrap64 ((wrap64 (s0_2 * 6364136223846793005)) + 1442695040888963407)) / 8589934592) ((wrap64 ((wrap64 (s0_2 * 6364136223846793005)) + 1442695040888963407)) / 140737488355328)) 255) + (wrap64 (rd s0_0 s0_1)))) 255, wrap64 (s0_1 + 1), wrap64 ((wrap64 (s0_2 * 6364136223846793005)) + 1442695040888963407))) else (none)) else (some (Go.bits .and .i64 (Go.bits .xor .i64 ((wrap64 ((wrap64 (s0_2 * 6364136223846793005)) + 1442695040888963407)) / 8589934592) ((wrap64 ((wrap64 (s0_2 * 6364136223846793005)) + 1442695040888963407)) / 140737488355328)) 255, s0_1, wrap64 ((wrap64 (s0_2 * 6364136223846793005)) + 1442695040888963407)))
set_option maxHeartbeats 8000000 in
set_option maxRecDepth 100000 in
theorem spec_l1Byte.calls (g : Nat) (s0_0 : List Int) (s0_1 : Int) (s0_2 : Int) (r1 : Int) (r2 : Int) (r3 : Int) (w0 w : World) (hI : IsS78 w0 w g s0_0 s0_1 s0_2) (hB : Below w0.heap.size w0 w) (h : spec_l1Byte.f s0_0 s0_1 s0_2 = some (r1, r2, r3)) :
  Calls Try.prog 67 #[.pointer (some ⟨g, 0, none⟩)] w fun e w' => e = .returned (.int .i64 r1) ∧ IsS78 w0 w' g s0_0 r2 r3 ∧ Below w0.heap.size w0 w' ∧ KeepBut w w' g none := by
 have HI0 := Aside0.mk hI
 have HK := Aside0.mk (KeepBut.refl w g none)
 have HL := Aside0.mk hB.size
 clear hI
 have HW0 := Aside0.mk hB.size
 have HB := Aside0.mk hB
 clear hB
 have H : (if s0_1 < (s0_0.length : Int) then (if 0 ≤ s0_1 then (some (Go.bits .and .i64 (wrap64 ((Go.bits .and .i64 (Go.bits .xor .i64 ((wrap64 ((wrap64 (s0_2 * 6364136223846793005)) + 1442695040888963407)) / 8589934592) ((wrap64 ((wrap64 (s0_2 * 6364136223846793005)) + 1442695040888963407)) / 140737488355328)) 255) + (wrap64 (rd s0_0 s0_1)))) 255, wrap64 (s0_1 + 1), wrap64 ((wrap64 (s0_2 * 6364136223846793005)) + 1442695040888963407))) else (none)) else (some (Go.bits .and .i64 (Go.bits .xor .i64 ((wrap64 ((wrap64 (s0_2 * 6364136223846793005)) + 1442695040888963407)) / 8589934592) ((wrap64 ((wrap64 (s0_2 * 6364136223846793005)) + 1442695040888963407)) / 140737488355328)) 255, s0_1, wrap64 ((wrap64 (s0_2 * 6364136223846793005)) + 1442695040888963407)))) = some (r1, r2, r3) := h
 clear h
 by_cases c2 : s0_1 < (s0_0.length : Int)
 ·rw [if_pos c2] at H
  have c2b0 : decide (s0_1 < (s0_0.length : Int)) = true := decide_eq_true c2
  clear c2
  obtain ⟨c3, H⟩ := ifS H
  have c3b0 : decide (0 ≤ s0_1) = true := decide_eq_true c3
  clear c3
  simp only [Option.some.injEq, Prod.mk.injEq] at H
  obtain ⟨rfl, rfl, rfl⟩ := H
  obtain ⟨ASz4_0, cSz4_0, HGz4, hgz4, HSz4_0⟩ := HI0.out
  have hcz4_0 := cellS78_0 HGz4
  have hcz4_1 := cellS78_1 HGz4
  have hcz4_2 := cellS78_2 HGz4
  have hfz4_1 := blk_frozen HGz4 1
  have hfz4_2 := blk_frozen HGz4 2
  clear HGz4 hgz4
  have p275 : 0 ≤ (s0_1 : Int) := zD
  have q275 : s0_1 < (s0_0.length : Int) := zD
  obtain ⟨ad275, e275, hx275_0⟩ := Kd.at_int HSz4_0 s0_1 p275 q275
  cases e275
  have hn275_0 : ad275.block ≠ g := Nat.ne_of_lt (Nat.lt_of_lt_of_le (by have := World.block_lt_of_cell? _ _ hx275_0; first | rwa [add_block] at this | exact this) (IsS78.ge HI0.out))
  replace hx275_0 := pw_cell_below HB.out hx275_0
  replace hx275_0 := (cell_far (p := ⟨g, 2, none⟩) (by first | (rw [add_block]; exact hn275_0) | (show (Addr.add _ _).block ≠ _; rw [add_block]; exact hn275_0) | exact hn275_0) (.int .i64 (wrap64 ((wrap64 (s0_2 * 6364136223846793005)) + 1442695040888963407)))).trans hx275_0
  (try have hy275_0 := fun (n_ : Nat) => (show (((w.drewN n_).setCell ⟨g, 2, none⟩ (.int .i64 (wrap64 ((wrap64 (s0_2 * 6364136223846793005)) + 1442695040888963407))))).cell? _ = some _ from hx275_0))
  clear hn275_0
  replace p275 := eq_true p275
  replace q275 := eq_true q275
  go_enter Try.func67, Try.ntmps67
  go_wp2
  repeat (go_quiet (fail); try go_wp2)
  go_ret
  exact ⟨zE, by repeat (first | (with_reducible first | exact HI0.out | apply IsS78.alloc | apply IsS78.drewN | apply IsS78.drew | apply IsS78.set_1 | apply IsS78.set_2) | exact HI0.out), by repeat (first | (with_reducible first | exact HB.out | apply below_alloc | apply pw_below_drewN | apply below_drew1 | refine below_set ?_ (IsS78.ge HI0.out)) | exact HB.out), zH HK⟩
 ·rw [if_neg c2] at H
  have c2b0 : decide (s0_1 < (s0_0.length : Int)) = false := decide_eq_false c2
  clear c2
  simp only [Option.some.injEq, Prod.mk.injEq] at H
  obtain ⟨rfl, rfl, rfl⟩ := H
  obtain ⟨ASz5_0, cSz5_0, HGz5, hgz5, HSz5_0⟩ := HI0.out
  have hcz5_0 := cellS78_0 HGz5
  have hcz5_1 := cellS78_1 HGz5
  have hcz5_2 := cellS78_2 HGz5
  have hfz5_1 := blk_frozen HGz5 1
  have hfz5_2 := blk_frozen HGz5 2
  clear HGz5 hgz5
  go_enter Try.func67, Try.ntmps67
  go_wp2
  repeat (go_quiet (fail); try go_wp2)
  go_ret
  exact ⟨zE, by repeat (first | (with_reducible first | exact HI0.out | apply IsS78.alloc | apply IsS78.drewN | apply IsS78.drew | apply IsS78.set_1 | apply IsS78.set_2) | exact HI0.out), by repeat (first | (with_reducible first | exact HB.out | apply below_alloc | apply pw_below_drewN | apply below_drew1 | refine below_set ?_ (IsS78.ge HI0.out)) | exact HB.out), zH HK⟩

/-! ### spec_l1Below: function 53 -/
def spec_l1Below.f (s0_0 : List Int) (s0_1 : Int) (s0_2 : Int) (a1 : Int) : Option (Int × Int × Int) := if a1 ≤ 0 then (some (0, s0_1, s0_2)) else (if a1 ≤ 256 then ((spec_l1Byte.f s0_0 s0_1 s0_2).bind fun bt276 => (if a1 = 0 then (none) else (some (Int.tmod bt276.1 a1, bt276.2.1, bt276.2.2)))) else ((spec_l1Byte.f s0_0 s0_1 s0_2).bind fun bt279 => ((spec_l1Byte.f s0_0 bt279.2.1 bt279.2.2).bind fun bt282 => ((spec_l1Byte.f s0_0 bt282.2.1 bt282.2.2).bind fun bt285 => (if a1 = 0 then (none) else (some (Int.tmod (wrap64 ((wrap64 ((wrap64 (bt279.1 * 65536)) + (wrap64 (bt282.1 * 256)))) + bt285.1)) a1, bt285.2.1, bt285.2.2)))))))
set_option maxHeartbeats 8000000 in
set_option maxRecDepth 100000 in
theorem spec_l1Below.calls (g : Nat) (s0_0 : List Int) (s0_1 : Int) (s0_2 : Int) (a1 : Int) (r1 : Int) (r2 : Int) (r3 : Int) (w0 w : World) (hI : IsS78 w0 w g s0_0 s0_1 s0_2) (hB : Below w0.heap.size w0 w) (h : spec_l1Below.f s0_0 s0_1 s0_2 a1 = some (r1, r2, r3)) :
  Calls Try.prog 53 #[.pointer (some ⟨g, 0, none⟩), .int .i64 a1] w fun e w' => e = .returned (.int .i64 r1) ∧ IsS78 w0 w' g s0_0 r2 r3 ∧ Below w0.heap.size w0 w' ∧ KeepBut w w' g none := by
 have HI0 := Aside0.mk hI
 have HK := Aside0.mk (KeepBut.refl w g none)
 have HL := Aside0.mk hB.size
 clear hI
 have HW0 := Aside0.mk hB.size
 have HB := Aside0.mk hB
 clear hB
 have H : (if a1 ≤ 0 then (some (0, s0_1, s0_2)) else (if a1 ≤ 256 then ((spec_l1Byte.f s0_0 s0_1 s0_2).bind fun bt276 => (if a1 = 0 then (none) else (some (Int.tmod bt276.1 a1, bt276.2.1, bt276.2.2)))) else ((spec_l1Byte.f s0_0 s0_1 s0_2).bind fun bt279 => ((spec_l1Byte.f s0_0 bt279.2.1 bt279.2.2).bind fun bt282 => ((spec_l1Byte.f s0_0 bt282.2.1 bt282.2.2).bind fun bt285 => (if a1 = 0 then (none) else (some (Int.tmod (wrap64 ((wrap64 ((wrap64 (bt279.1 * 65536)) + (wrap64 (bt282.1 * 256)))) + bt285.1)) a1, bt285.2.1, bt285.2.2)))))))) = some (r1, r2, r3) := h
 clear h
 by_cases c3 : a1 ≤ 0
 ·rw [if_pos c3] at H
  have c3b0 : decide (a1 ≤ 0) = true := decide_eq_true c3
  clear c3
  simp only [Option.some.injEq, Prod.mk.injEq] at H
  obtain ⟨rfl, rfl, rfl⟩ := H
  go_enter Try.func53, Try.ntmps53
  go_wp2
  go_ret
  exact ⟨zE, by repeat (first | (with_reducible first | exact HI0.out | apply IsS78.alloc | apply IsS78.drewN | apply IsS78.drew | apply IsS78.set_1 | apply IsS78.set_2) | exact HI0.out), by repeat (first | (with_reducible first | exact HB.out | apply below_alloc | apply pw_below_drewN | apply below_drew1 | refine below_set ?_ (IsS78.ge HI0.out)) | exact HB.out), zH HK⟩
 ·rw [if_neg c3] at H
  have c3b0 : decide (a1 ≤ 0) = false := decide_eq_false c3
  clear c3
  by_cases c4 : a1 ≤ 256
  ·rw [if_pos c4] at H
   have c4b0 : decide (a1 ≤ 256) = true := decide_eq_true c4
   clear c4
   replace H := Option.bind_eq_some_iff.mp H
   obtain ⟨⟨t276, t277, t278⟩, A50, H⟩ := H
   replace H : (if a1 = 0 then (none) else (some (Int.tmod t276 a1, t277, t278))) = some (r1, r2, r3) := H
   have A5 := Aside0.mk A50
   clear A50
   obtain ⟨c6, H⟩ := ifN H
   have c6b0 : (a1 == 0) = false := beq_eq_false_iff_ne.mpr c6
   have c6b1 : (a1 != 0) = true := bne_iff_ne.mpr c6
   simp only [Option.some.injEq, Prod.mk.injEq] at H
   obtain ⟨rfl, rfl, rfl⟩ := H
   go_enter Try.func53, Try.ntmps53
   go_wp2_with (first | ((with_reducible refine gate_callee (f := 67) rfl ?_); refine goesL_ (some 13) rfl rfl Try.func67 (by kernel_rfl) rfl #[.pointer (some ⟨g, 0, none⟩)] rfl zG ?_; (with_reducible refine (spec_l1Byte.calls g s0_0 s0_1 s0_2 t276 t277 t278 w0 _ ?side1 ?side2 A5.out).mono ?_); (case side1 => repeat (first | (with_reducible first | exact HI0.out | apply IsS78.alloc | apply IsS78.drewN | apply IsS78.drew | apply IsS78.set_1 | apply IsS78.set_2) | exact HI0.out)); (case side2 => repeat (first | (with_reducible first | exact HB.out | apply below_alloc | apply pw_below_drewN | apply below_drew1 | refine below_set ?_ (IsS78.ge HI0.out)) | exact HB.out)); rintro e w7 ⟨rfl, hi, hb, hk⟩; refine ⟨_, rfl, ?_⟩; replace HK := Aside0.mk (KeepBut.trans (zH HK) hk (.inl rfl)); replace HB := Aside0.mk (hb); replace HI0 := Aside0.mk (hi); (try clear hb)))
   go_ret
   exact ⟨zE, by repeat (first | (with_reducible first | exact HI0.out | apply IsS78.alloc | apply IsS78.drewN | apply IsS78.drew | apply IsS78.set_1 | apply IsS78.set_2) | exact HI0.out), by repeat (first | (with_reducible first | exact HB.out | apply below_alloc | apply pw_below_drewN | apply below_drew1 | refine below_set ?_ (IsS78.ge HI0.out)) | exact HB.out), zH HK⟩
  ·rw [if_neg c4] at H
   have c4b0 : decide (a1 ≤ 256) = false := decide_eq_false c4
   clear c4
   replace H := Option.bind_eq_some_iff.mp H
   obtain ⟨⟨t279, t280, t281⟩, A80, H⟩ := H
   replace H : ((spec_l1Byte.f s0_0 t280 t281).bind fun bt282 => ((spec_l1Byte.f s0_0 bt282.2.1 bt282.2.2).bind fun bt285 => (if a1 = 0 then (none) else (some (Int.tmod (wrap64 ((wrap64 ((wrap64 (t279 * 65536)) + (wrap64 (bt282.1 * 256)))) + bt285.1)) a1, bt285.2.1, bt285.2.2))))) = some (r1, r2, r3) := H
   have A8 := Aside0.mk A80
   clear A80
   replace H := Option.bind_eq_some_iff.mp H
   obtain ⟨⟨t282, t283, t284⟩, A90, H⟩ := H
   replace H : ((spec_l1Byte.f s0_0 t283 t284).bind fun bt285 => (if a1 = 0 then (none) else (some (Int.tmod (wrap64 ((wrap64 ((wrap64 (t279 * 65536)) + (wrap64 (t282 * 256)))) + bt285.1)) a1, bt285.2.1, bt285.2.2)))) = some (r1, r2, r3) := H
   have A9 := Aside0.mk A90
   clear A90
   replace H := Option.bind_eq_some_iff.mp H
   obtain ⟨⟨t285, t286, t287⟩, A100, H⟩ := H
   replace H : (if a1 = 0 then (none) else (some (Int.tmod (wrap64 ((wrap64 ((wrap64 (t279 * 65536)) + (wrap64 (t282 * 256)))) + t285)) a1, t286, t287))) = some (r1, r2, r3) := H
   have A10 := Aside0.mk A100
   clear A100
   obtain ⟨c11, H⟩ := ifN H
   have c11b0 : (a1 == 0) = false := beq_eq_false_iff_ne.mpr c11
   have c11b1 : (a1 != 0) = true := bne_iff_ne.mpr c11
   simp only [Option.some.injEq, Prod.mk.injEq] at H
   obtain ⟨rfl, rfl, rfl⟩ := H
   go_enter Try.func53, Try.ntmps53
   go_wp2_with (first | ((with_reducible refine gate_callee (f := 67) rfl ?_); refine goesL_ (some 17) rfl rfl Try.func67 (by kernel_rfl) rfl #[.pointer (some ⟨g, 0, none⟩)] rfl zG ?_; (with_reducible refine (spec_l1Byte.calls g s0_0 s0_1 s0_2 t279 t280 t281 w0 _ ?side1 ?side2 A8.out).mono ?_); (case side1 => repeat (first | (with_reducible first | exact HI0.out | apply IsS78.alloc | apply IsS78.drewN | apply IsS78.drew | apply IsS78.set_1 | apply IsS78.set_2) | exact HI0.out)); (case side2 => repeat (first | (with_reducible first | exact HB.out | apply below_alloc | apply pw_below_drewN | apply below_drew1 | refine below_set ?_ (IsS78.ge HI0.out)) | exact HB.out)); rintro e w12 ⟨rfl, hi, hb, hk⟩; refine ⟨_, rfl, ?_⟩; replace HK := Aside0.mk (KeepBut.trans (zH HK) hk (.inl rfl)); replace HB := Aside0.mk (hb); replace HI0 := Aside0.mk (hi); (try clear hb)) | ((with_reducible refine gate_callee (f := 67) rfl ?_); refine goesL_ (some 19) rfl rfl Try.func67 (by kernel_rfl) rfl #[.pointer (some ⟨g, 0, none⟩)] rfl zG ?_; (with_reducible refine (spec_l1Byte.calls g s0_0 t280 t281 t282 t283 t284 w0 _ ?side1 ?side2 A9.out).mono ?_); (case side1 => repeat (first | (with_reducible first | exact HI0.out | apply IsS78.alloc | apply IsS78.drewN | apply IsS78.drew | apply IsS78.set_1 | apply IsS78.set_2) | exact HI0.out)); (case side2 => repeat (first | (with_reducible first | exact HB.out | apply below_alloc | apply pw_below_drewN | apply below_drew1 | refine below_set ?_ (IsS78.ge HI0.out)) | exact HB.out)); rintro e w13 ⟨rfl, hi, hb, hk⟩; refine ⟨_, rfl, ?_⟩; replace HK := Aside0.mk (KeepBut.trans (zH HK) hk (.inl rfl)); replace HB := Aside0.mk (hb); replace HI0 := Aside0.mk (hi); (try clear hb)) | ((with_reducible refine gate_callee (f := 67) rfl ?_); refine goesL_ (some 21) rfl rfl Try.func67 (by kernel_rfl) rfl #[.pointer (some ⟨g, 0, none⟩)] rfl zG ?_; (with_reducible refine (spec_l1Byte.calls g s0_0 t283 t284 t285 t286 t287 w0 _ ?side1 ?side2 A10.out).mono ?_); (case side1 => repeat (first | (with_reducible first | exact HI0.out | apply IsS78.alloc | apply IsS78.drewN | apply IsS78.drew | apply IsS78.set_1 | apply IsS78.set_2) | exact HI0.out)); (case side2 => repeat (first | (with_reducible first | exact HB.out | apply below_alloc | apply pw_below_drewN | apply below_drew1 | refine below_set ?_ (IsS78.ge HI0.out)) | exact HB.out)); rintro e w14 ⟨rfl, hi, hb, hk⟩; refine ⟨_, rfl, ?_⟩; replace HK := Aside0.mk (KeepBut.trans (zH HK) hk (.inl rfl)); replace HB := Aside0.mk (hb); replace HI0 := Aside0.mk (hi); (try clear hb)))
   go_ret
   exact ⟨zE, by repeat (first | (with_reducible first | exact HI0.out | apply IsS78.alloc | apply IsS78.drewN | apply IsS78.drew | apply IsS78.set_1 | apply IsS78.set_2) | exact HI0.out), by repeat (first | (with_reducible first | exact HB.out | apply below_alloc | apply pw_below_drewN | apply below_drew1 | refine below_set ?_ (IsS78.ge HI0.out)) | exact HB.out), zH HK⟩

/-! ### spec_l1Once: function 64 -/
def spec_l1Once.f (s0_0 : List Int) (s0_1 : Int) (s0_2 : Int) (a1 : Int) : Option (Bool × Int × Int) := (spec_l1Below.f s0_0 s0_1 s0_2 a1).bind fun bt288 => (some ((bt288.1 == 0), bt288.2.1, bt288.2.2))
set_option maxHeartbeats 8000000 in
set_option maxRecDepth 100000 in
theorem spec_l1Once.calls (g : Nat) (s0_0 : List Int) (s0_1 : Int) (s0_2 : Int) (a1 : Int) (r1 : Bool) (r2 : Int) (r3 : Int) (w0 w : World) (hI : IsS78 w0 w g s0_0 s0_1 s0_2) (hB : Below w0.heap.size w0 w) (h : spec_l1Once.f s0_0 s0_1 s0_2 a1 = some (r1, r2, r3)) :
  Calls Try.prog 64 #[.pointer (some ⟨g, 0, none⟩), .int .i64 a1] w fun e w' => e = .returned (.bool r1) ∧ IsS78 w0 w' g s0_0 r2 r3 ∧ Below w0.heap.size w0 w' ∧ KeepBut w w' g none := by
 have HI0 := Aside0.mk hI
 have HK := Aside0.mk (KeepBut.refl w g none)
 have HL := Aside0.mk hB.size
 clear hI
 have HW0 := Aside0.mk hB.size
 have HB := Aside0.mk hB
 clear hB
 have H : ((spec_l1Below.f s0_0 s0_1 s0_2 a1).bind fun bt288 => (some ((bt288.1 == 0), bt288.2.1, bt288.2.2))) = some (r1, r2, r3) := h
 clear h
 replace H := Option.bind_eq_some_iff.mp H
 obtain ⟨⟨t288, t289, t290⟩, A30, H⟩ := H
 replace H : (some ((t288 == 0), t289, t290)) = some (r1, r2, r3) := H
 have A3 := Aside0.mk A30
 clear A30
 simp only [Option.some.injEq, Prod.mk.injEq] at H
 obtain ⟨rfl, rfl, rfl⟩ := H
 go_enter Try.func64, Try.ntmps64
 go_wp2_with (first | ((with_reducible refine gate_callee (f := 53) rfl ?_); refine goesL_ (some 7) rfl rfl Try.func53 (by kernel_rfl) rfl #[.pointer (some ⟨g, 0, none⟩), .int .i64 a1] rfl zG ?_; (with_reducible refine (spec_l1Below.calls g s0_0 s0_1 s0_2 a1 t288 t289 t290 w0 _ ?side1 ?side2 A3.out).mono ?_); (case side1 => repeat (first | (with_reducible first | exact HI0.out | apply IsS78.alloc | apply IsS78.drewN | apply IsS78.drew | apply IsS78.set_1 | apply IsS78.set_2) | exact HI0.out)); (case side2 => repeat (first | (with_reducible first | exact HB.out | apply below_alloc | apply pw_below_drewN | apply below_drew1 | refine below_set ?_ (IsS78.ge HI0.out)) | exact HB.out)); rintro e w4 ⟨rfl, hi, hb, hk⟩; refine ⟨_, rfl, ?_⟩; replace HK := Aside0.mk (KeepBut.trans (zH HK) hk (.inl rfl)); replace HB := Aside0.mk (hb); replace HI0 := Aside0.mk (hi); (try clear hb)))
 go_ret
 exact ⟨zE, by repeat (first | (with_reducible first | exact HI0.out | apply IsS78.alloc | apply IsS78.drewN | apply IsS78.drew | apply IsS78.set_1 | apply IsS78.set_2) | exact HI0.out), by repeat (first | (with_reducible first | exact HB.out | apply below_alloc | apply pw_below_drewN | apply below_drew1 | refine below_set ?_ (IsS78.ge HI0.out)) | exact HB.out), zH HK⟩

/-! ### spec_l4Draw: function 51 -/
def spec_l4Draw.l0 : Nat → List (S47) → Int → List Int → Int → Int → Option ((List (S47)) × Int × Int)
 | 0, _, _, _, _, _ => none
 | k + 1, x3, x4, x1000, x1001, x1002 => if x4 > 0 then ((spec_l1Below.f x1000 x1001 x1002 3).bind fun bt300 => ((spec_l1Below.f x1000 bt300.2.1 bt300.2.2 5).bind fun bt303 => ((spec_l1Once.f x1000 bt303.2.1 bt303.2.2 3).bind fun bt307 => (if bt307.1 = true then (if 0 < (x3.length : Int) then ((spec_l1Below.f x1000 bt307.2.1 bt307.2.2 (wrap64 (((rd_T47 x3 0).f1) + 1))).bind fun bt311 => (if x3.length < 4398046511104 then (spec_l4Draw.l0 k (x3 ++ [(⟨wrap64 (1 + bt300.1), wrap64 (1 + bt303.1), 0, bt311.1⟩ : S47)]) (wrap64 (x4 - 1)) x1000 bt311.2.1 bt311.2.2) else (none))) else (none)) else (if x3.length < 4398046511104 then (spec_l4Draw.l0 k (x3 ++ [(⟨wrap64 (1 + bt300.1), wrap64 (1 + bt303.1), (-1), 0⟩ : S47)]) (wrap64 (x4 - 1)) x1000 bt307.2.1 bt307.2.2) else (none)))))) else (some (x3, x1001, x1002))
def spec_l4Draw.f (k : Nat) (s0_0 : List Int) (s0_1 : Int) (s0_2 : Int) : Option ((List (S47)) × Int × Int) := (spec_l1Below.f s0_0 s0_1 s0_2 9).bind fun bt291 => ((spec_l1Below.f s0_0 bt291.2.1 bt291.2.2 5).bind fun bt297 => (spec_l4Draw.l0 k (([(⟨1, wrap64 (1 + bt291.1), (-1), 0⟩ : S47)] : List (S47))) bt297.1 s0_0 bt297.2.1 bt297.2.2))
theorem spec_l4Draw.mono_l : ∀ k, (∀ y0 y1 y2 y3 y4, LeO (spec_l4Draw.l0 k y0 y1 y2 y3 y4) (spec_l4Draw.l0 (k + 1) y0 y1 y2 y3 y4))
 | 0 => fun _ _ _ _ _ r h => by simp [spec_l4Draw.l0] at h
 | k + 1 => by
  have ih0 := spec_l4Draw.mono_l k
  ·intro y0 y1 y2 y3 y4
   unfold spec_l4Draw.l0
   repeat' first
   | (with_reducible exact ih0 _ _ _ _ _)
   | (with_reducible exact LeO.refl _)
   | (with_reducible exact LeO.none _)
   | (with_reducible refine LeO.ite ?_ ?_)
   | (with_reducible refine LeO.bind ?_ (fun _ => ?_))
   | exact ih0 _ _ _ _ _
   | exact LeO.none _
   | refine LeO.ite ?_ ?_
   | refine LeO.bind ?_ (fun _ => ?_)
theorem spec_l4Draw.mono : ∀ a0 a1 a2 k, LeO (spec_l4Draw.f k a0 a1 a2) (spec_l4Draw.f (k + 1) a0 a1 a2) := by
 intro a0 a1 a2 k
 have ih0 := spec_l4Draw.mono_l k
 unfold spec_l4Draw.f
 repeat' first
   | (with_reducible exact ih0 _ _ _ _ _)
   | (with_reducible exact LeO.refl _)
   | (with_reducible exact LeO.none _)
   | (with_reducible refine LeO.ite ?_ ?_)
   | (with_reducible refine LeO.bind ?_ (fun _ => ?_))
   | exact ih0 _ _ _ _ _
   | exact LeO.none _
   | refine LeO.ite ?_ ?_
   | refine LeO.bind ?_ (fun _ => ?_)
theorem spec_l4Draw.zI78 {P Q : Prop} (h : Aside0 P) (hw : P → Q := by intro h_; repeat (first | (with_reducible first | exact h_ | apply IsS78.alloc | apply IsS78.drew | apply IsS78.drewN | apply IsS78.set_1 | apply IsS78.set_2 | refine IsS78.far ?_ (Aside0.out (by assumption)) _) | exact h_)) : Q := hw h.out
set_option maxHeartbeats 8000000 in
set_option maxRecDepth 100000 in
theorem spec_l4Draw.calls (k : Nat) (g : Nat) (s0_0 : List Int) (s0_1 : Int) (s0_2 : Int) (r1 : List (S47)) (r2 : Int) (r3 : Int) (w0 w : World) (hI : IsS78 w0 w g s0_0 s0_1 s0_2) (hB : Below w0.heap.size w0 w) (h : spec_l4Draw.f k s0_0 s0_1 s0_2 = some (r1, r2, r3)) :
  Calls Try.prog 51 #[.pointer (some ⟨g, 0, none⟩)] w fun e w' => ∃ v0_ : Value, e = .returned (v0_) ∧ Kd.R k47 47 w' w.heap.size (fun _ => True) v0_ r1 ∧ IsS78 w0 w' g s0_0 r2 r3 ∧ Below w0.heap.size w0 w' ∧ KeepBut w w' g none := by
 have hu47 := Try.underlying47
 have HI0 := Aside0.mk hI
 have HK := Aside0.mk (KeepBut.refl w g none)
 have HL := Aside0.mk hB.size
 clear hI
 have HW0 := Aside0.mk hB.size
 have HB := Aside0.mk hB
 clear hB
 have H : ((spec_l1Below.f s0_0 s0_1 s0_2 9).bind fun bt291 => ((spec_l1Below.f s0_0 bt291.2.1 bt291.2.2 5).bind fun bt297 => (spec_l4Draw.l0 k (([(⟨1, wrap64 (1 + bt291.1), (-1), 0⟩ : S47)] : List (S47))) bt297.1 s0_0 bt297.2.1 bt297.2.2))) = some (r1, r2, r3) := h
 clear h
 replace H := Option.bind_eq_some_iff.mp H
 obtain ⟨⟨t291, t292, t293⟩, A20, H⟩ := H
 replace H : ((spec_l1Below.f s0_0 t292 t293 5).bind fun bt297 => (spec_l4Draw.l0 k (([(⟨1, wrap64 (1 + t291), (-1), 0⟩ : S47)] : List (S47))) bt297.1 s0_0 bt297.2.1 bt297.2.2)) = some (r1, r2, r3) := H
 have A2 := Aside0.mk A20
 clear A20
 obtain ⟨y294, hy294⟩ : ∃ y_ : List (S47), y_ = (([(⟨1, wrap64 (1 + t291), (-1), 0⟩ : S47)] : List (S47))) := ⟨_, rfl⟩
 replace H : ((spec_l1Below.f s0_0 t292 t293 5).bind fun bt297 => (spec_l4Draw.l0 k y294 bt297.1 s0_0 bt297.2.1 bt297.2.2)) = some (r1, r2, r3) := by first | (rw [hy294]; with_reducible exact H) | (have H2_ := (Option.bind_some _ _).symm.trans H; rw [hy294]; with_reducible exact H2_) | (have H2_ := (Option.bind_some _ _).symm.trans H; with_reducible exact H2_) | with_reducible exact H | (rw [hy294]; exact H) | exact H
 have Ny294 := Aside0.mk hy294
 clear hy294
 replace H := Option.bind_eq_some_iff.mp H
 obtain ⟨⟨t297, t298, t299⟩, A30, H⟩ := H
 replace H : (spec_l4Draw.l0 k y294 t297 s0_0 t298 t299) = some (r1, r2, r3) := H
 have A3 := Aside0.mk A30
 clear A30
 have H' := Aside0.mk H
 clear H
 go_enter Try.func51, Try.ntmps51
 go_wp2_with (first | ((with_reducible refine gate_callee (f := 53) rfl ?_); refine goesL_ (some 7) rfl rfl Try.func53 (by kernel_rfl) rfl #[.pointer (some ⟨g, 0, none⟩), .int .i64 9] rfl zG ?_; (with_reducible refine (spec_l1Below.calls g s0_0 s0_1 s0_2 9 t291 t292 t293 w0 _ ?side1 ?side2 A2.out).mono ?_); (case side1 => exact spec_l4Draw.zI78 HI0); (case side2 => repeat (first | (with_reducible first | exact HB.out | apply below_alloc | apply pw_below_drewN | apply below_drew1 | refine below_set ?_ (IsS78.ge HI0.out)) | exact HB.out)); rintro e w4 ⟨rfl, hi, hb, hk⟩; refine ⟨_, rfl, ?_⟩; replace HK := Aside0.mk (KeepBut.trans (zH HK) hk (.inl rfl)); replace HB := Aside0.mk (hb); replace HI0 := Aside0.mk (hi); (try clear hb)) | ((with_reducible refine gate_dst (N := 10) rfl ?_); refine Kd.R_lit k47 _ 47 ?hg (N := 10) ?hd (xs := ([(⟨1, wrap64 (1 + t291), (-1), 0⟩ : S47)] : List (S47))) (inner := [.int .i64 1, .int .i64 (wrap64 (1 + t291)), .int .i64 (-1), .int .i64 0]) (ok := fun _ => True) (okp := fun _ => True) ?hr ?hp (fun _ hk => hk) trivial (Below.refl _ _) (Nat.le_refl _) (by simp) ?_; (case hd => rfl); (case hg => rfl); (case hr => first | (go_simp; done) | (go_simp; rfl)); (case hp => exact (Reps.c4 (show Kd.M k47 _ _ _ (⟨1, wrap64 (1 + t291), (-1), 0⟩ : S47) [.int .i64 1, .int .i64 (wrap64 (1 + t291)), .int .i64 (-1), .int .i64 0] from (k47_mkM _ _ _ (⟨1, wrap64 (1 + t291), (-1), 0⟩ : S47) )) (Reps.none _ _))); intro v295 w5 ho6 hb hg_ hnew_; clear hg_ hnew_; (first | rw [← Ny294.out] at ho6 | (simp only [Int.reduceToNat] at ho6; rw [← Ny294.out] at ho6)); have HO296 := Aside0.mk (Kd.R_lower ho6 (keep_size (w := w) (g := g) (row := none) (zH HK))); replace HK := Aside0.mk (KeepBut.trans (zH HK) (KeepBut.of_below hb g none) (.inl rfl)); replace HB := Aside0.mk (below_step (by repeat (first | (with_reducible first | exact HB.out | apply below_alloc | apply pw_below_drewN | apply below_drew1 | refine below_set ?_ (IsS78.ge HI0.out)) | exact HB.out)) hb); replace HI0 := Aside0.mk (IsS78.below (spec_l4Draw.zI78 HI0) hb); clear hb ho6) | ((with_reducible refine gate_callee (f := 53) rfl ?_); refine goesL_ (some 12) rfl rfl Try.func53 (by kernel_rfl) rfl #[.pointer (some ⟨g, 0, none⟩), .int .i64 5] rfl zG ?_; (with_reducible refine (spec_l1Below.calls g s0_0 t292 t293 5 t297 t298 t299 w0 _ ?side1 ?side2 A3.out).mono ?_); (case side1 => exact spec_l4Draw.zI78 HI0); (case side2 => repeat (first | (with_reducible first | exact HB.out | apply below_alloc | apply pw_below_drewN | apply below_drew1 | refine below_set ?_ (IsS78.ge HI0.out)) | exact HB.out)); rintro e w7 ⟨rfl, hi, hb, hk⟩; refine ⟨_, rfl, ?_⟩; replace HO296 := Aside0.mk (Kd.R_mono (Kd.R_keep (IsS78.apart (show IsS78 w0 _ g s0_0 t292 t293 from spec_l4Draw.zI78 HI0) (zR HO296) (by decide)) hk (fun _ h => h.2)) (fun _ h => h.1)); replace HK := Aside0.mk (KeepBut.trans (zH HK) hk (.inl rfl)); replace HB := Aside0.mk (hb); replace HI0 := Aside0.mk (hi); (try clear hb)))
 go_loopg [3, 4] k (fun kq v3 v4 w' => ∃ (x3_1 : List (S47)) (x4_1 : Int) (x1001_1 : Int) (x1002_1 : Int), v4 = .int .i64 x4_1 ∧ Aside0 (spec_l4Draw.l0 kq x3_1 x4_1 s0_0 x1001_1 x1002_1 = some (r1, r2, r3)) ∧ Aside0 (kq ≤ k) ∧ Aside0 (Kd.R k47 47 w' w.heap.size (fun _ => True) v3 x3_1) ∧ Aside0 (IsS78 w0 w' g s0_0 x1001_1 x1002_1) ∧ Aside0 (KeepBut w w' g none) ∧ Aside0 (Below w0.heap.size w0 w'))
 case atStart => exact ⟨(y294), (t297), (t298), (t299), zF, H', ⟨Nat.le_refl _⟩, ⟨zR HO296⟩, ⟨spec_l4Draw.zI78 HI0⟩, ⟨zH HK⟩, ⟨by repeat (first | (with_reducible first | exact HB.out | apply below_alloc | apply pw_below_drewN | apply below_drew1 | refine below_set ?_ (IsS78.ge HI0.out)) | exact HB.out)⟩⟩
 case round =>
  clear H'
  try clear p2
  try clear c4
  try clear c5
  try clear p6
  obtain ⟨x3_1, x4_1, x1001_1, x1002_1, rfl, HA, HK1, HO_3, HI0, HK, HB⟩ := hrel
  cases gk with
  | zero => exact absurd HA.out (by simp [spec_l4Draw.l0])
  | succ k1 =>
   have H := HA.out
   clear HA
   simp only [spec_l4Draw.l0] at H
   by_cases c8 : x4_1 > 0
   ·rw [if_pos c8] at H
    have c8b0 : decide (0 < x4_1) = true := decide_eq_true c8
    clear c8
    replace H := Option.bind_eq_some_iff.mp H
    obtain ⟨⟨t300, t301, t302⟩, A90, H⟩ := H
    replace H : ((spec_l1Below.f s0_0 t301 t302 5).bind fun bt303 => ((spec_l1Once.f s0_0 bt303.2.1 bt303.2.2 3).bind fun bt307 => (if bt307.1 = true then (if 0 < (x3_1.length : Int) then ((spec_l1Below.f s0_0 bt307.2.1 bt307.2.2 (wrap64 (((rd_T47 x3_1 0).f1) + 1))).bind fun bt311 => (if x3_1.length < 4398046511104 then (spec_l4Draw.l0 k1 (x3_1 ++ [(⟨wrap64 (1 + t300), wrap64 (1 + bt303.1), 0, bt311.1⟩ : S47)]) (wrap64 (x4_1 - 1)) s0_0 bt311.2.1 bt311.2.2) else (none))) else (none)) else (if x3_1.length < 4398046511104 then (spec_l4Draw.l0 k1 (x3_1 ++ [(⟨wrap64 (1 + t300), wrap64 (1 + bt303.1), (-1), 0⟩ : S47)]) (wrap64 (x4_1 - 1)) s0_0 bt307.2.1 bt307.2.2) else (none))))) = some (r1, r2, r3) := H
    have A9 := Aside0.mk A90
    clear A90
    replace H := Option.bind_eq_some_iff.mp H
    obtain ⟨⟨t303, t304, t305⟩, A100, H⟩ := H
    replace H : ((spec_l1Once.f s0_0 t304 t305 3).bind fun bt307 => (if bt307.1 = true then (if 0 < (x3_1.length : Int) then ((spec_l1Below.f s0_0 bt307.2.1 bt307.2.2 (wrap64 (((rd_T47 x3_1 0).f1) + 1))).bind fun bt311 => (if x3_1.length < 4398046511104 then (spec_l4Draw.l0 k1 (x3_1 ++ [(⟨wrap64 (1 + t300), wrap64 (1 + t303), 0, bt311.1⟩ : S47)]) (wrap64 (x4_1 - 1)) s0_0 bt311.2.1 bt311.2.2) else (none))) else (none)) else (if x3_1.length < 4398046511104 then (spec_l4Draw.l0 k1 (x3_1 ++ [(⟨wrap64 (1 + t300), wrap64 (1 + t303), (-1), 0⟩ : S47)]) (wrap64 (x4_1 - 1)) s0_0 bt307.2.1 bt307.2.2) else (none)))) = some (r1, r2, r3) := H
    have A10 := Aside0.mk A100
    clear A100
    replace H := Option.bind_eq_some_iff.mp H
    obtain ⟨⟨t307, t308, t309⟩, A110, H⟩ := H
    replace H : (if t307 = true then (if 0 < (x3_1.length : Int) then ((spec_l1Below.f s0_0 t308 t309 (wrap64 (((rd_T47 x3_1 0).f1) + 1))).bind fun bt311 => (if x3_1.length < 4398046511104 then (spec_l4Draw.l0 k1 (x3_1 ++ [(⟨wrap64 (1 + t300), wrap64 (1 + t303), 0, bt311.1⟩ : S47)]) (wrap64 (x4_1 - 1)) s0_0 bt311.2.1 bt311.2.2) else (none))) else (none)) else (if x3_1.length < 4398046511104 then (spec_l4Draw.l0 k1 (x3_1 ++ [(⟨wrap64 (1 + t300), wrap64 (1 + t303), (-1), 0⟩ : S47)]) (wrap64 (x4_1 - 1)) s0_0 t308 t309) else (none))) = some (r1, r2, r3) := H
    have A11 := Aside0.mk A110
    clear A110
    by_cases c12 : t307 = true
    ·subst c12
     have H1 : (if 0 < (x3_1.length : Int) then ((spec_l1Below.f s0_0 t308 t309 (wrap64 (((rd_T47 x3_1 0).f1) + 1))).bind fun bt311 => (if x3_1.length < 4398046511104 then (spec_l4Draw.l0 k1 (x3_1 ++ [(⟨wrap64 (1 + t300), wrap64 (1 + t303), 0, bt311.1⟩ : S47)]) (wrap64 (x4_1 - 1)) s0_0 bt311.2.1 bt311.2.2) else (none))) else (none)) = some (r1, r2, r3) := by rw [if_pos rfl] at H; exact H
     clear H
     have H := H1
     clear H1
     obtain ⟨c13, H⟩ := ifS H
     have c13b0 : decide (0 < (x3_1.length : Int)) = true := decide_eq_true c13
     have c13b1 : decide (0 < x3_1.length) = true := decide_eq_true (by omega)
     clear c13
     replace H := Option.bind_eq_some_iff.mp H
     obtain ⟨⟨t311, t312, t313⟩, A140, H⟩ := H
     replace H : (if x3_1.length < 4398046511104 then (spec_l4Draw.l0 k1 (x3_1 ++ [(⟨wrap64 (1 + t300), wrap64 (1 + t303), 0, t311⟩ : S47)]) (wrap64 (x4_1 - 1)) s0_0 t312 t313) else (none)) = some (r1, r2, r3) := H
     have A14 := Aside0.mk A140
     clear A140
     obtain ⟨c15, H⟩ := ifS H
     have LMc15 := Aside0.mk c15
     clear c15
     obtain ⟨y314, hy314⟩ : ∃ y_ : List (S47), y_ = (x3_1 ++ [(⟨wrap64 (1 + t300), wrap64 (1 + t303), 0, t311⟩ : S47)]) := ⟨_, rfl⟩
     replace H : (spec_l4Draw.l0 k1 y314 (wrap64 (x4_1 - 1)) s0_0 t312 t313) = some (r1, r2, r3) := by first | (rw [hy314]; with_reducible exact H) | (have H2_ := (Option.bind_some _ _).symm.trans H; rw [hy314]; with_reducible exact H2_) | (have H2_ := (Option.bind_some _ _).symm.trans H; with_reducible exact H2_) | with_reducible exact H | (rw [hy314]; exact H) | exact H
     have Ny314 := Aside0.mk hy314
     clear hy314
     have H' := Aside0.mk H
     clear H
     go_wp2_with (first | ((with_reducible refine gate_callee (f := 53) rfl ?_); refine goesL_ (some 18) rfl rfl Try.func53 (by kernel_rfl) rfl #[.pointer (some ⟨g, 0, none⟩), .int .i64 3] rfl zG ?_; (with_reducible refine (spec_l1Below.calls g s0_0 x1001_1 x1002_1 3 t300 t301 t302 w0 _ ?side1 ?side2 A9.out).mono ?_); (case side1 => exact spec_l4Draw.zI78 HI0); (case side2 => repeat (first | (with_reducible first | exact HB.out | apply below_alloc | apply pw_below_drewN | apply below_drew1 | refine below_set ?_ (IsS78.ge HI0.out)) | exact HB.out)); rintro e w16 ⟨rfl, hi, hb, hk⟩; refine ⟨_, rfl, ?_⟩; replace HO_3 := Aside0.mk (Kd.R_mono (Kd.R_keep (IsS78.apart (show IsS78 w0 _ g s0_0 x1001_1 x1002_1 from spec_l4Draw.zI78 HI0) (zR HO_3) (by decide)) hk (fun _ h => h.2)) (fun _ h => h.1)); replace HK := Aside0.mk (KeepBut.trans (zH HK) hk (.inl rfl)); replace HB := Aside0.mk (hb); replace HI0 := Aside0.mk (hi); (try clear hb)) | ((with_reducible refine gate_callee (f := 53) rfl ?_); refine goesL_ (some 21) rfl rfl Try.func53 (by kernel_rfl) rfl #[.pointer (some ⟨g, 0, none⟩), .int .i64 5] rfl zG ?_; (with_reducible refine (spec_l1Below.calls g s0_0 t301 t302 5 t303 t304 t305 w0 _ ?side1 ?side2 A10.out).mono ?_); (case side1 => exact spec_l4Draw.zI78 HI0); (case side2 => repeat (first | (with_reducible first | exact HB.out | apply below_alloc | apply pw_below_drewN | apply below_drew1 | refine below_set ?_ (IsS78.ge HI0.out)) | exact HB.out)); rintro e w17 ⟨rfl, hi, hb, hk⟩; refine ⟨_, rfl, ?_⟩; replace HO_3 := Aside0.mk (Kd.R_mono (Kd.R_keep (IsS78.apart (show IsS78 w0 _ g s0_0 t301 t302 from spec_l4Draw.zI78 HI0) (zR HO_3) (by decide)) hk (fun _ h => h.2)) (fun _ h => h.1)); replace HK := Aside0.mk (KeepBut.trans (zH HK) hk (.inl rfl)); replace HB := Aside0.mk (hb); replace HI0 := Aside0.mk (hi); (try clear hb)) | ((with_reducible refine gate_dst (N := 5) rfl ?_); refine box_event ?hg (N := 5) ?hd (cs := #[.int .i64 0, .int .i64 0, .int .i64 0, .int .i64 0]) (t := 47) ?hr ?_; (case hd => rfl); (case hg => rfl); (case hr => first | (go_simp; done) | (go_simp; rfl)); intro gb306 hg w18 hbox hb; replace HO_3 := Aside0.mk (Kd.R_below (Kd.R_elderB (zR HO_3) gb306 (Nat.le_of_eq hg.symm)) hb); replace HB := Aside0.mk (below_step (by repeat (first | (with_reducible first | exact HB.out | apply below_alloc | apply pw_below_drewN | apply below_drew1 | refine below_set ?_ (IsS78.ge HI0.out)) | exact HB.out)) hb); have BK306 := Aside0.mk (hbox); have GW306 := Aside0.mk ((by rw [hg]; exact (keep_size (w := w) (g := g) (row := none) (zH HK)) : w.heap.size ≤ gb306)); have GE306 := Aside0.mk ((Nat.le_trans HW0.out (by rw [hg]; exact (keep_size (w := w) (g := g) (row := none) (zH HK)) : w.heap.size ≤ gb306) : w0.heap.size ≤ gb306)); replace HK := Aside0.mk (KeepBut.trans (zH HK) (KeepBut.of_below hb g none) (.inl rfl)); have NB0_306 := Aside0.mk ((by rw [hg]; exact Nat.ne_of_lt (IsS78.lt (show IsS78 w0 _ g s0_0 t304 t305 from spec_l4Draw.zI78 HI0)) : g ≠ gb306)); have NB306_0 := Aside0.mk ((by rw [hg]; exact Nat.ne_of_gt (IsS78.lt (show IsS78 w0 _ g s0_0 t304 t305 from spec_l4Draw.zI78 HI0)) : gb306 ≠ g)); replace HI0 := Aside0.mk (IsS78.below (spec_l4Draw.zI78 HI0) hb); clear hb hbox hg; have hnb19 := NB306_0.out; have hnc19 := NB0_306.out; have hcz20_0 := bc0 BK306; have hcz20_1 := bc1 BK306; have hcz20_2 := bc2 BK306; have hcz20_3 := bc3 BK306; have hfz20_0 := bf BK306 0; have hfz20_1 := bf BK306 1; have hfz20_2 := bf BK306 2; have hfz20_3 := bf BK306 3) | ((with_reducible refine gate_callee (f := 64) rfl ?_); refine goesL_ (some 25) rfl rfl Try.func64 (by kernel_rfl) rfl #[.pointer (some ⟨g, 0, none⟩), .int .i64 3] rfl zG ?_; (with_reducible refine (spec_l1Once.calls g s0_0 t304 t305 3 true t308 t309 w0 _ ?side1 ?side2 A11.out).mono ?_); (case side1 => exact spec_l4Draw.zI78 HI0); (case side2 => repeat (first | (with_reducible first | exact HB.out | apply below_alloc | apply pw_below_drewN | apply below_drew1 | refine below_set ?_ (IsS78.ge HI0.out) | refine below_set ?_ GE306.out) | exact HB.out)); rintro e w21 ⟨rfl, hi, hb, hk⟩; refine ⟨_, rfl, ?_⟩; replace HO_3 := Aside0.mk (Kd.R_mono (Kd.R_keep (IsS78.apart (show IsS78 w0 _ g s0_0 t304 t305 from spec_l4Draw.zI78 HI0) (by (with_reducible repeat (first | apply Kd.R_alloc | apply Kd.R_drewN | apply Kd.R_drew)); exact (Kd.R_mono (Kd.R_far (p := ⟨gb306, 3, none⟩) (Kd.R_far (p := ⟨gb306, 2, none⟩) (Kd.R_far (p := ⟨gb306, 1, none⟩) (Kd.R_far (p := ⟨gb306, 0, none⟩) (Kd.R_mono HO_3.out (fun k_ hk => (⟨hk, hk.2⟩ : _ ∧ k_ ≠ gb306))) (fun _ hk => hk.2) (.int .i64 (wrap64 (1 + t300)))) (fun _ hk => hk.2) (.int .i64 (wrap64 (1 + t303)))) (fun _ hk => hk.2) (.int .i64 (-1))) (fun _ hk => hk.2) (.int .i64 0)) (fun _ h_ => h_.1))) (by decide)) hk (fun _ h => h.2)) (fun _ h => h.1)); replace BK306 := Aside0.mk (KeepBut.blk hk (g' := gb306) (o := .cells #[.int .i64 (wrap64 (1 + t300)), .int .i64 (wrap64 (1 + t303)), .int .i64 (-1), .int .i64 0] 47 (0, 0)) (by (with_reducible repeat (first | refine blk_drewN ?_ _ | refine blk_drew ?_ | refine blk_alloc ?_ _)); refine blk_put (cs := #[.int .i64 (wrap64 (1 + t300)), .int .i64 (wrap64 (1 + t303)), .int .i64 (-1), .int .i64 0]) ?_ 3 _ rfl; (with_reducible repeat (first | refine blk_drewN ?_ _ | refine blk_drew ?_ | refine blk_alloc ?_ _)); refine blk_put (cs := #[.int .i64 (wrap64 (1 + t300)), .int .i64 (wrap64 (1 + t303)), .int .i64 0, .int .i64 0]) ?_ 2 _ rfl; (with_reducible repeat (first | refine blk_drewN ?_ _ | refine blk_drew ?_ | refine blk_alloc ?_ _)); refine blk_put (cs := #[.int .i64 (wrap64 (1 + t300)), .int .i64 0, .int .i64 0, .int .i64 0]) ?_ 1 _ rfl; (with_reducible repeat (first | refine blk_drewN ?_ _ | refine blk_drew ?_ | refine blk_alloc ?_ _)); refine blk_put (cs := #[.int .i64 0, .int .i64 0, .int .i64 0, .int .i64 0]) ?_ 0 _ rfl; (with_reducible repeat (first | refine blk_drewN ?_ _ | refine blk_drew ?_ | refine blk_alloc ?_ _)); exact BK306.out) NB306_0.out (by simp)); replace HK := Aside0.mk (KeepBut.trans (zH HK) hk (.inl rfl)); replace HB := Aside0.mk (hb); replace HI0 := Aside0.mk (hi); (try clear hb); have hcz22_0 := bc0 BK306; have hcz22_1 := bc1 BK306; have hcz22_2 := bc2 BK306; have hcz22_3 := bc3 BK306; have hfz22_0 := bf BK306 0; have hfz22_1 := bf BK306 1; have hfz22_2 := bf BK306 2; have hfz22_3 := bf BK306 3; obtain ⟨Ao23, co23, eo23⟩ := Kd.R_slice HO_3.out; subst eo23; have p310 : 0 ≤ (0 : Int) := (by omega); have q310 : 0 < (x3_1.length : Int) := zD; obtain ⟨ad310, e310, hx310_0, hx310_1, hx310_2, hx310_3⟩ := at_T47 (Kd.R_reads' HO_3.out).2.2 0 p310 q310; cases e310; have qi310 : (0 < x3_1.length) = True := eq_true (by omega); (try rw [show ((0 : Int)).toNat = 0 from rfl] at hx310_0); (try rw [show 0 * 4 = 0 from rfl] at hx310_0); (try rw [Addr.add_zero'] at hx310_0); (try rw [show ((0 : Int)).toNat = 0 from rfl] at hx310_1); (try rw [show 0 * 4 = 0 from rfl] at hx310_1); (try rw [Addr.add_zero'] at hx310_1); (try rw [show ((0 : Int)).toNat = 0 from rfl] at hx310_2); (try rw [show 0 * 4 = 0 from rfl] at hx310_2); (try rw [Addr.add_zero'] at hx310_2); (try rw [show ((0 : Int)).toNat = 0 from rfl] at hx310_3); (try rw [show 0 * 4 = 0 from rfl] at hx310_3); (try rw [Addr.add_zero'] at hx310_3); have hn310_0 : ad310.block ≠ gb306 := (by first | exact Kd.own_blk (Kd.R_ne HO_3.out BK306.out (by decide)) | exact Kd.own_blk (Kd.R_away HO_3.out (fun _ hk => hk.2))); replace hx310_0 := (cell_far (p := ⟨gb306, 2, none⟩) (by first | (rw [add_block]; exact hn310_0) | (show (Addr.add _ _).block ≠ _; rw [add_block]; exact hn310_0) | exact hn310_0) (.int .i64 0)).trans hx310_0; replace hx310_1 := (cell_far (p := ⟨gb306, 2, none⟩) (by first | (rw [add_block]; exact hn310_0) | (show (Addr.add _ _).block ≠ _; rw [add_block]; exact hn310_0) | exact hn310_0) (.int .i64 0)).trans hx310_1; replace hx310_2 := (cell_far (p := ⟨gb306, 2, none⟩) (by first | (rw [add_block]; exact hn310_0) | (show (Addr.add _ _).block ≠ _; rw [add_block]; exact hn310_0) | exact hn310_0) (.int .i64 0)).trans hx310_2; replace hx310_3 := (cell_far (p := ⟨gb306, 2, none⟩) (by first | (rw [add_block]; exact hn310_0) | (show (Addr.add _ _).block ≠ _; rw [add_block]; exact hn310_0) | exact hn310_0) (.int .i64 0)).trans hx310_3; clear hn310_0; replace p310 := eq_true p310; replace q310 := eq_true q310) | ((with_reducible refine gate_callee (f := 53) rfl ?_); refine goesL_ (some 33) rfl rfl Try.func53 (by kernel_rfl) rfl #[.pointer (some ⟨g, 0, none⟩), .int .i64 (wrap64 (((rd_T47 x3_1 0).f1) + 1))] rfl zG ?_; (with_reducible refine (spec_l1Below.calls g s0_0 t308 t309 (wrap64 (((rd_T47 x3_1 0).f1) + 1)) t311 t312 t313 w0 _ ?side1 ?side2 A14.out).mono ?_); (case side1 => exact spec_l4Draw.zI78 HI0); (case side2 => repeat (first | (with_reducible first | exact HB.out | apply below_alloc | apply pw_below_drewN | apply below_drew1 | refine below_set ?_ (IsS78.ge HI0.out) | refine below_set ?_ GE306.out) | exact HB.out)); rintro e w24 ⟨rfl, hi, hb, hk⟩; refine ⟨_, rfl, ?_⟩; replace HO_3 := Aside0.mk (Kd.R_mono (Kd.R_keep (IsS78.apart (show IsS78 w0 _ g s0_0 t308 t309 from spec_l4Draw.zI78 HI0) (by (with_reducible repeat (first | apply Kd.R_alloc | apply Kd.R_drewN | apply Kd.R_drew)); exact (Kd.R_mono (Kd.R_far (p := ⟨gb306, 2, none⟩) (Kd.R_mono HO_3.out (fun k_ hk => (⟨hk, hk.2⟩ : _ ∧ k_ ≠ gb306))) (fun _ hk => hk.2) (.int .i64 0)) (fun _ h_ => h_.1))) (by decide)) hk (fun _ h => h.2)) (fun _ h => h.1)); replace BK306 := Aside0.mk (KeepBut.blk hk (g' := gb306) (o := .cells #[.int .i64 (wrap64 (1 + t300)), .int .i64 (wrap64 (1 + t303)), .int .i64 0, .int .i64 0] 47 (0, 0)) (by (with_reducible repeat (first | refine blk_drewN ?_ _ | refine blk_drew ?_ | refine blk_alloc ?_ _)); refine blk_put (cs := #[.int .i64 (wrap64 (1 + t300)), .int .i64 (wrap64 (1 + t303)), .int .i64 (-1), .int .i64 0]) ?_ 2 _ rfl; (with_reducible repeat (first | refine blk_drewN ?_ _ | refine blk_drew ?_ | refine blk_alloc ?_ _)); exact BK306.out) NB306_0.out (by simp)); replace HK := Aside0.mk (KeepBut.trans (zH HK) hk (.inl rfl)); replace HB := Aside0.mk (hb); replace HI0 := Aside0.mk (hi); (try clear hb); have hcz25_0 := bc0 BK306; have hcz25_1 := bc1 BK306; have hcz25_2 := bc2 BK306; have hcz25_3 := bc3 BK306; have hfz25_0 := bf BK306 0; have hfz25_1 := bf BK306 1; have hfz25_2 := bf BK306 2; have hfz25_3 := bf BK306 3) | ((with_reducible refine gate_builtin (b := .append) (xs := #[.tmp 35, .tmp 37]) rfl ?_); at_builtin; refine Kd.R_append k47 w.heap.size rfl (.tmp 35) (.tmp 37) 25 47 (.agg #[(.int .i64 0), (.int .i64 0), (.int .i64 0), (.int .i64 0)]) 32 rfl Try.underlying25 info47 rfl (by decide) (by omega) (.slice (some ad310) x3_1.length co23) x3_1 (⟨wrap64 (1 + t300), wrap64 (1 + t303), 0, t311⟩ : S47) [.int .i64 (wrap64 (1 + t300)), .int .i64 (wrap64 (1 + t303)), .int .i64 0, .int .i64 t311] (fun k_ => k_ ≠ gb306) (fun _ => False) rfl (by first | (go_simp; done) | (go_simp; rfl)) ?aP (fun _ hk => hk.elim) ?aF ?aO (Below.refl _ _) ?aS ?aL ?_; (case aP => exact k47_mkM _ _ _ (⟨wrap64 (1 + t300), wrap64 (1 + t303), 0, t311⟩ : S47)); (case aF => exact (fun k_ hk => Kd.freshB (g := gb306) (o := .cells #[.int .i64 (wrap64 (1 + t300)), .int .i64 (wrap64 (1 + t303)), .int .i64 0, .int .i64 t311] 47 (0, 0)) (by (with_reducible repeat (first | refine blk_drewN ?_ _ | refine blk_drew ?_ | refine blk_alloc ?_ _)); refine blk_put (cs := #[.int .i64 (wrap64 (1 + t300)), .int .i64 (wrap64 (1 + t303)), .int .i64 0, .int .i64 0]) ?_ 3 _ rfl; (with_reducible repeat (first | refine blk_drewN ?_ _ | refine blk_drew ?_ | refine blk_alloc ?_ _)); exact BK306.out) k_ hk)); (case aO => exact (by (with_reducible repeat (first | apply Kd.R_alloc | apply Kd.R_drewN | apply Kd.R_drew)); exact Kd.R_mono (Kd.R_far (p := ⟨gb306, 3, none⟩) (Kd.R_mono HO_3.out (fun k_ hk => (⟨hk, hk.2⟩ : _ ∧ k_ ≠ gb306))) (fun _ hk => hk.2) (.int .i64 t311)) (fun _ hk => hk.1.2))); (case aS => exact (keep_size (w := w) (g := g) (row := none) (zH HK))); (case aL => have := LMc15.out; omega); intro v315 w26 ho hb hg hat; rw [← Ny314.out] at ho; replace BK306 := Aside0.mk (blk_grown (g := gb306) (o := .cells #[.int .i64 (wrap64 (1 + t300)), .int .i64 (wrap64 (1 + t303)), .int .i64 0, .int .i64 t311] 47 (0, 0)) (by (with_reducible repeat (first | refine blk_drewN ?_ _ | refine blk_drew ?_ | refine blk_alloc ?_ _)); refine blk_put (cs := #[.int .i64 (wrap64 (1 + t300)), .int .i64 (wrap64 (1 + t303)), .int .i64 0, .int .i64 0]) ?_ 3 _ rfl; (with_reducible repeat (first | refine blk_drewN ?_ _ | refine blk_drew ?_ | refine blk_alloc ?_ _)); exact BK306.out) hg (Kd.R_away HO_3.out (fun _ hk => hk.2))); replace HB := Aside0.mk (below_weaken (by repeat (first | (with_reducible first | exact HB.out | apply below_alloc | apply pw_below_drewN | apply below_drew1 | refine below_set ?_ (IsS78.ge HI0.out) | refine below_set ?_ GE306.out) | exact HB.out)) HL.out hb); replace HI0 := Aside0.mk (IsS78.grown (by first | exact HI0.out | exact IsS78.far (p := ⟨gb306, _, none⟩) HI0.out NB0_306.out _ | exact IsS78.far (p := ⟨gb306, _, none⟩) (IsS78.far (p := ⟨gb306, _, none⟩) HI0.out NB0_306.out _) NB0_306.out _) hg (IsS78.own_ne HI0.out HO_3.out (by decide))); replace HK := Aside0.mk (KeepBut.trans (zH HK) (KeepBut.of_grown hg g) (Kd.R_base2 HO_3.out)); have HO316 := Aside0.mk (ho); clear HO_3; clear ho hb hg hat))
     go_roundg k1
     case measure => have := HK1.out; omega
     case rel => exact ⟨(y314), (wrap64 (x4_1 - 1)), (t312), (t313), zF, H', ⟨by have := HK1.out; omega⟩, ⟨by (with_reducible repeat (first | apply Kd.R_alloc | apply Kd.R_drewN | apply Kd.R_drew)); exact Kd.R_mono HO316.out (fun _ hk => trivial)⟩, ⟨spec_l4Draw.zI78 HI0⟩, ⟨zH HK⟩, ⟨by repeat (first | (with_reducible first | exact HB.out | apply below_alloc | apply pw_below_drewN | apply below_drew1 | refine below_set ?_ (IsS78.ge HI0.out) | refine below_set ?_ GE306.out) | exact HB.out)⟩⟩
    ·replace c12 := Bool.eq_false_iff.mpr c12
     subst c12
     have H1 : (if x3_1.length < 4398046511104 then (spec_l4Draw.l0 k1 (x3_1 ++ [(⟨wrap64 (1 + t300), wrap64 (1 + t303), (-1), 0⟩ : S47)]) (wrap64 (x4_1 - 1)) s0_0 t308 t309) else (none)) = some (r1, r2, r3) := by rw [if_neg (show ¬ (false = true) by decide)] at H; exact H
     clear H
     have H := H1
     clear H1
     obtain ⟨c27, H⟩ := ifS H
     have LMc27 := Aside0.mk c27
     clear c27
     obtain ⟨y317, hy317⟩ : ∃ y_ : List (S47), y_ = (x3_1 ++ [(⟨wrap64 (1 + t300), wrap64 (1 + t303), (-1), 0⟩ : S47)]) := ⟨_, rfl⟩
     replace H : (spec_l4Draw.l0 k1 y317 (wrap64 (x4_1 - 1)) s0_0 t308 t309) = some (r1, r2, r3) := by first | (rw [hy317]; with_reducible exact H) | (have H2_ := (Option.bind_some _ _).symm.trans H; rw [hy317]; with_reducible exact H2_) | (have H2_ := (Option.bind_some _ _).symm.trans H; with_reducible exact H2_) | with_reducible exact H | (rw [hy317]; exact H) | exact H
     have Ny317 := Aside0.mk hy317
     clear hy317
     have H' := Aside0.mk H
     clear H
     go_wp2_with (first | ((with_reducible refine gate_callee (f := 53) rfl ?_); refine goesL_ (some 18) rfl rfl Try.func53 (by kernel_rfl) rfl #[.pointer (some ⟨g, 0, none⟩), .int .i64 3] rfl zG ?_; (with_reducible refine (spec_l1Below.calls g s0_0 x1001_1 x1002_1 3 t300 t301 t302 w0 _ ?side1 ?side2 A9.out).mono ?_); (case side1 => exact spec_l4Draw.zI78 HI0); (case side2 => repeat (first | (with_reducible first | exact HB.out | apply below_alloc | apply pw_below_drewN | apply below_drew1 | refine below_set ?_ (IsS78.ge HI0.out)) | exact HB.out)); rintro e w28 ⟨rfl, hi, hb, hk⟩; refine ⟨_, rfl, ?_⟩; replace HO_3 := Aside0.mk (Kd.R_mono (Kd.R_keep (IsS78.apart (show IsS78 w0 _ g s0_0 x1001_1 x1002_1 from spec_l4Draw.zI78 HI0) (zR HO_3) (by decide)) hk (fun _ h => h.2)) (fun _ h => h.1)); replace HK := Aside0.mk (KeepBut.trans (zH HK) hk (.inl rfl)); replace HB := Aside0.mk (hb); replace HI0 := Aside0.mk (hi); (try clear hb)) | ((with_reducible refine gate_callee (f := 53) rfl ?_); refine goesL_ (some 21) rfl rfl Try.func53 (by kernel_rfl) rfl #[.pointer (some ⟨g, 0, none⟩), .int .i64 5] rfl zG ?_; (with_reducible refine (spec_l1Below.calls g s0_0 t301 t302 5 t303 t304 t305 w0 _ ?side1 ?side2 A10.out).mono ?_); (case side1 => exact spec_l4Draw.zI78 HI0); (case side2 => repeat (first | (with_reducible first | exact HB.out | apply below_alloc | apply pw_below_drewN | apply below_drew1 | refine below_set ?_ (IsS78.ge HI0.out)) | exact HB.out)); rintro e w29 ⟨rfl, hi, hb, hk⟩; refine ⟨_, rfl, ?_⟩; replace HO_3 := Aside0.mk (Kd.R_mono (Kd.R_keep (IsS78.apart (show IsS78 w0 _ g s0_0 t301 t302 from spec_l4Draw.zI78 HI0) (zR HO_3) (by decide)) hk (fun _ h => h.2)) (fun _ h => h.1)); replace HK := Aside0.mk (KeepBut.trans (zH HK) hk (.inl rfl)); replace HB := Aside0.mk (hb); replace HI0 := Aside0.mk (hi); (try clear hb)) | ((with_reducible refine gate_dst (N := 5) rfl ?_); refine box_event ?hg (N := 5) ?hd (cs := #[.int .i64 0, .int .i64 0, .int .i64 0, .int .i64 0]) (t := 47) ?hr ?_; (case hd => rfl); (case hg => rfl); (case hr => first | (go_simp; done) | (go_simp; rfl)); intro gb306 hg w30 hbox hb; replace HO_3 := Aside0.mk (Kd.R_below (Kd.R_elderB (zR HO_3) gb306 (Nat.le_of_eq hg.symm)) hb); replace HB := Aside0.mk (below_step (by repeat (first | (with_reducible first | exact HB.out | apply below_alloc | apply pw_below_drewN | apply below_drew1 | refine below_set ?_ (IsS78.ge HI0.out)) | exact HB.out)) hb); have BK306 := Aside0.mk (hbox); have GW306 := Aside0.mk ((by rw [hg]; exact (keep_size (w := w) (g := g) (row := none) (zH HK)) : w.heap.size ≤ gb306)); have GE306 := Aside0.mk ((Nat.le_trans HW0.out (by rw [hg]; exact (keep_size (w := w) (g := g) (row := none) (zH HK)) : w.heap.size ≤ gb306) : w0.heap.size ≤ gb306)); replace HK := Aside0.mk (KeepBut.trans (zH HK) (KeepBut.of_below hb g none) (.inl rfl)); have NB0_306 := Aside0.mk ((by rw [hg]; exact Nat.ne_of_lt (IsS78.lt (show IsS78 w0 _ g s0_0 t304 t305 from spec_l4Draw.zI78 HI0)) : g ≠ gb306)); have NB306_0 := Aside0.mk ((by rw [hg]; exact Nat.ne_of_gt (IsS78.lt (show IsS78 w0 _ g s0_0 t304 t305 from spec_l4Draw.zI78 HI0)) : gb306 ≠ g)); replace HI0 := Aside0.mk (IsS78.below (spec_l4Draw.zI78 HI0) hb); clear hb hbox hg; have hnb31 := NB306_0.out; have hnc31 := NB0_306.out; have hcz32_0 := bc0 BK306; have hcz32_1 := bc1 BK306; have hcz32_2 := bc2 BK306; have hcz32_3 := bc3 BK306; have hfz32_0 := bf BK306 0; have hfz32_1 := bf BK306 1; have hfz32_2 := bf BK306 2; have hfz32_3 := bf BK306 3) | ((with_reducible refine gate_callee (f := 64) rfl ?_); refine goesL_ (some 25) rfl rfl Try.func64 (by kernel_rfl) rfl #[.pointer (some ⟨g, 0, none⟩), .int .i64 3] rfl zG ?_; (with_reducible refine (spec_l1Once.calls g s0_0 t304 t305 3 false t308 t309 w0 _ ?side1 ?side2 A11.out).mono ?_); (case side1 => exact spec_l4Draw.zI78 HI0); (case side2 => repeat (first | (with_reducible first | exact HB.out | apply below_alloc | apply pw_below_drewN | apply below_drew1 | refine below_set ?_ (IsS78.ge HI0.out) | refine below_set ?_ GE306.out) | exact HB.out)); rintro e w33 ⟨rfl, hi, hb, hk⟩; refine ⟨_, rfl, ?_⟩; replace HO_3 := Aside0.mk (Kd.R_mono (Kd.R_keep (IsS78.apart (show IsS78 w0 _ g s0_0 t304 t305 from spec_l4Draw.zI78 HI0) (by (with_reducible repeat (first | apply Kd.R_alloc | apply Kd.R_drewN | apply Kd.R_drew)); exact (Kd.R_mono (Kd.R_far (p := ⟨gb306, 3, none⟩) (Kd.R_far (p := ⟨gb306, 2, none⟩) (Kd.R_far (p := ⟨gb306, 1, none⟩) (Kd.R_far (p := ⟨gb306, 0, none⟩) (Kd.R_mono HO_3.out (fun k_ hk => (⟨hk, hk.2⟩ : _ ∧ k_ ≠ gb306))) (fun _ hk => hk.2) (.int .i64 (wrap64 (1 + t300)))) (fun _ hk => hk.2) (.int .i64 (wrap64 (1 + t303)))) (fun _ hk => hk.2) (.int .i64 (-1))) (fun _ hk => hk.2) (.int .i64 0)) (fun _ h_ => h_.1))) (by decide)) hk (fun _ h => h.2)) (fun _ h => h.1)); replace BK306 := Aside0.mk (KeepBut.blk hk (g' := gb306) (o := .cells #[.int .i64 (wrap64 (1 + t300)), .int .i64 (wrap64 (1 + t303)), .int .i64 (-1), .int .i64 0] 47 (0, 0)) (by (with_reducible repeat (first | refine blk_drewN ?_ _ | refine blk_drew ?_ | refine blk_alloc ?_ _)); refine blk_put (cs := #[.int .i64 (wrap64 (1 + t300)), .int .i64 (wrap64 (1 + t303)), .int .i64 (-1), .int .i64 0]) ?_ 3 _ rfl; (with_reducible repeat (first | refine blk_drewN ?_ _ | refine blk_drew ?_ | refine blk_alloc ?_ _)); refine blk_put (cs := #[.int .i64 (wrap64 (1 + t300)), .int .i64 (wrap64 (1 + t303)), .int .i64 0, .int .i64 0]) ?_ 2 _ rfl; (with_reducible repeat (first | refine blk_drewN ?_ _ | refine blk_drew ?_ | refine blk_alloc ?_ _)); refine blk_put (cs := #[.int .i64 (wrap64 (1 + t300)), .int .i64 0, .int .i64 0, .int .i64 0]) ?_ 1 _ rfl; (with_reducible repeat (first | refine blk_drewN ?_ _ | refine blk_drew ?_ | refine blk_alloc ?_ _)); refine blk_put (cs := #[.int .i64 0, .int .i64 0, .int .i64 0, .int .i64 0]) ?_ 0 _ rfl; (with_reducible repeat (first | refine blk_drewN ?_ _ | refine blk_drew ?_ | refine blk_alloc ?_ _)); exact BK306.out) NB306_0.out (by simp)); replace HK := Aside0.mk (KeepBut.trans (zH HK) hk (.inl rfl)); replace HB := Aside0.mk (hb); replace HI0 := Aside0.mk (hi); (try clear hb); have hcz34_0 := bc0 BK306; have hcz34_1 := bc1 BK306; have hcz34_2 := bc2 BK306; have hcz34_3 := bc3 BK306; have hfz34_0 := bf BK306 0; have hfz34_1 := bf BK306 1; have hfz34_2 := bf BK306 2; have hfz34_3 := bf BK306 3) | ((with_reducible refine gate_builtin (b := .append) (xs := #[.tmp 35, .tmp 37]) rfl ?_); at_builtin; refine Kd.R_append k47 w.heap.size rfl (.tmp 35) (.tmp 37) 25 47 (.agg #[(.int .i64 0), (.int .i64 0), (.int .i64 0), (.int .i64 0)]) 32 rfl Try.underlying25 info47 rfl (by decide) (by omega) u3 x3_1 (⟨wrap64 (1 + t300), wrap64 (1 + t303), (-1), 0⟩ : S47) [.int .i64 (wrap64 (1 + t300)), .int .i64 (wrap64 (1 + t303)), .int .i64 (-1), .int .i64 0] (fun k_ => k_ ≠ gb306) (fun _ => False) rfl rfl ?aP (fun _ hk => hk.elim) ?aF ?aO (Below.refl _ _) ?aS ?aL ?_; (case aP => exact k47_mkM _ _ _ (⟨wrap64 (1 + t300), wrap64 (1 + t303), (-1), 0⟩ : S47)); (case aF => exact (fun k_ hk => Kd.freshB (g := gb306) (o := .cells #[.int .i64 (wrap64 (1 + t300)), .int .i64 (wrap64 (1 + t303)), .int .i64 (-1), .int .i64 0] 47 (0, 0)) (zK BK306) k_ hk)); (case aO => exact (by (with_reducible repeat (first | apply Kd.R_alloc | apply Kd.R_drewN | apply Kd.R_drew)); exact Kd.R_mono HO_3.out (fun _ hk => hk.2))); (case aS => exact (keep_size (w := w) (g := g) (row := none) (zH HK))); (case aL => have := LMc27.out; omega); intro v318 w35 ho hb hg hat; rw [← Ny317.out] at ho; replace BK306 := Aside0.mk (blk_grown (g := gb306) (o := .cells #[.int .i64 (wrap64 (1 + t300)), .int .i64 (wrap64 (1 + t303)), .int .i64 (-1), .int .i64 0] 47 (0, 0)) (zK BK306) hg (Kd.R_away HO_3.out (fun _ hk => hk.2))); replace HB := Aside0.mk (below_weaken (by repeat (first | (with_reducible first | exact HB.out | apply below_alloc | apply pw_below_drewN | apply below_drew1 | refine below_set ?_ (IsS78.ge HI0.out) | refine below_set ?_ GE306.out) | exact HB.out)) HL.out hb); replace HI0 := Aside0.mk (IsS78.grown (by first | exact HI0.out | exact IsS78.far (p := ⟨gb306, _, none⟩) HI0.out NB0_306.out _ | exact IsS78.far (p := ⟨gb306, _, none⟩) (IsS78.far (p := ⟨gb306, _, none⟩) HI0.out NB0_306.out _) NB0_306.out _) hg (IsS78.own_ne HI0.out HO_3.out (by decide))); replace HK := Aside0.mk (KeepBut.trans (zH HK) (KeepBut.of_grown hg g) (Kd.R_base2 HO_3.out)); have HO319 := Aside0.mk (ho); clear HO_3; clear ho hb hg hat))
     go_roundg k1
     case measure => have := HK1.out; omega
     case rel => exact ⟨(y317), (wrap64 (x4_1 - 1)), (t308), (t309), zF, H', ⟨by have := HK1.out; omega⟩, ⟨by (with_reducible repeat (first | apply Kd.R_alloc | apply Kd.R_drewN | apply Kd.R_drew)); exact Kd.R_mono HO319.out (fun _ hk => trivial)⟩, ⟨spec_l4Draw.zI78 HI0⟩, ⟨zH HK⟩, ⟨by repeat (first | (with_reducible first | exact HB.out | apply below_alloc | apply pw_below_drewN | apply below_drew1 | refine below_set ?_ (IsS78.ge HI0.out) | refine below_set ?_ GE306.out) | exact HB.out)⟩⟩
   ·rw [if_neg c8] at H
    have c8b0 : decide (0 < x4_1) = false := decide_eq_false c8
    clear c8
    simp only [Option.some.injEq, Prod.mk.injEq] at H
    obtain ⟨rfl, rfl, rfl⟩ := H
    go_wp2
    go_ret
    exact ⟨_, zE, by (with_reducible repeat (first | apply Kd.R_alloc | apply Kd.R_drewN | apply Kd.R_drew)); exact HO_3.out, spec_l4Draw.zI78 HI0, by repeat (first | (with_reducible first | exact HB.out | apply below_alloc | apply pw_below_drewN | apply below_drew1 | refine below_set ?_ (IsS78.ge HI0.out)) | exact HB.out), zH HK⟩

/-! ### spec_Min: function 65 -/
def spec_Min.f (a0 : Int) (a1 : Int) : Option (Int) := if a1 < a0 then (some a1) else (some a0)
set_option maxHeartbeats 8000000 in
set_option maxRecDepth 100000 in
theorem spec_Min.calls (a0 : Int) (a1 : Int) (r : Int) (w : World) (h : spec_Min.f a0 a1 = some r) :
  Calls Try.prog 65 #[.int .i64 a0, .int .i64 a1] w fun e w' => e = .returned (.int .i64 r) ∧ Drawn0 w w' := by
 have H : (if a1 < a0 then (some a1) else (some a0)) = some r := h
 clear h
 by_cases c3 : a1 < a0
 ·rw [if_pos c3] at H
  have c3b0 : decide (a1 < a0) = true := decide_eq_true c3
  clear c3
  obtain rfl := Option.some.inj H
  go_enter Try.func65, Try.ntmps65
  go_wp2
  go_ret
  exact ⟨by first | rfl | (simp; done) | (simp [*]; done), by repeat (first | exact Drawn0.refl _ | apply Drawn0.step)⟩
 ·rw [if_neg c3] at H
  have c3b0 : decide (a1 < a0) = false := decide_eq_false c3
  clear c3
  obtain rfl := Option.some.inj H
  go_enter Try.func65, Try.ntmps65
  go_wp2
  go_ret
  exact ⟨by first | rfl | (simp; done) | (simp [*]; done), by repeat (first | exact Drawn0.refl _ | apply Drawn0.step)⟩

/-! ### spec_Max: function 66 -/
def spec_Max.f (a0 : Int) (a1 : Int) : Option (Int) := if a1 > a0 then (some a1) else (some a0)
set_option maxHeartbeats 8000000 in
set_option maxRecDepth 100000 in
theorem spec_Max.calls (a0 : Int) (a1 : Int) (r : Int) (w : World) (h : spec_Max.f a0 a1 = some r) :
  Calls Try.prog 66 #[.int .i64 a0, .int .i64 a1] w fun e w' => e = .returned (.int .i64 r) ∧ Drawn0 w w' := by
 have H : (if a1 > a0 then (some a1) else (some a0)) = some r := h
 clear h
 by_cases c3 : a1 > a0
 ·rw [if_pos c3] at H
  have c3b0 : decide (a0 < a1) = true := decide_eq_true c3
  clear c3
  obtain rfl := Option.some.inj H
  go_enter Try.func66, Try.ntmps66
  go_wp2
  go_ret
  exact ⟨by first | rfl | (simp; done) | (simp [*]; done), by repeat (first | exact Drawn0.refl _ | apply Drawn0.step)⟩
 ·rw [if_neg c3] at H
  have c3b0 : decide (a0 < a1) = false := decide_eq_false c3
  clear c3
  obtain rfl := Option.some.inj H
  go_enter Try.func66, Try.ntmps66
  go_wp2
  go_ret
  exact ⟨by first | rfl | (simp; done) | (simp [*]; done), by repeat (first | exact Drawn0.refl _ | apply Drawn0.step)⟩

/-! ### spec_l8Next: function 52 -/
def spec_l8Next.f (s0_0 : List Int) (s0_1 : Int) (s0_2 : Int) (l1 : List (S47)) : Option ((List (S47)) × Int × Int) := (some (([] : List (S47)) : List (S47))).bind fun y320 => (if y320.length + l1.length < 4398046511104 then ((some (y320 ++ l1 : List (S47))).bind fun y323 => ((spec_l1Below.f s0_0 s0_1 s0_2 (y323.length : Int)).bind fun bt326 => ((spec_l1Below.f s0_0 bt326.2.1 bt326.2.2 6).bind fun bt329 => (if bt329.1 = 0 then (if 0 ≤ bt326.1 then (if bt326.1 < (y323.length : Int) then ((spec_Min.f 5 (wrap64 (((rd_T47 y323 bt326.1).f1) + 1))).bind fun t333 => (some ((y323.set (bt326.1 : Int).toNat (⟨(rd_T47 y323 bt326.1).f0, t333, (rd_T47 y323 bt326.1).f2, (rd_T47 y323 bt326.1).f3⟩ : S47)), bt329.2.1, bt329.2.2))) else (none)) else (none)) else (if bt329.1 = 1 then (if 0 ≤ bt326.1 then (if bt326.1 < (y323.length : Int) then ((spec_Max.f 1 (wrap64 (((rd_T47 y323 bt326.1).f1) - 1))).bind fun t336 => (some ((y323.set (bt326.1 : Int).toNat (⟨(rd_T47 y323 bt326.1).f0, t336, (rd_T47 y323 bt326.1).f2, (rd_T47 y323 bt326.1).f3⟩ : S47)), bt329.2.1, bt329.2.2))) else (none)) else (none)) else (if bt329.1 = 2 then (if (y323.length : Int) < 6 then ((spec_l1Below.f s0_0 bt329.2.1 bt329.2.2 3).bind fun bt338 => ((spec_l1Below.f s0_0 bt338.2.1 bt338.2.2 4).bind fun bt341 => (if y323.length < 4398046511104 then (some ((y323 ++ [(⟨wrap64 (1 + bt338.1), wrap64 (1 + bt341.1), (-1), 0⟩ : S47)]), bt341.2.1, bt341.2.2)) else (none)))) else (some (y323, bt329.2.1, bt329.2.2))) else (if bt329.1 = 3 then ((spec_l1Below.f s0_0 bt329.2.1 bt329.2.2 3).bind fun bt347 => (if 0 ≤ bt326.1 then (if bt326.1 < (y323.length : Int) then (some ((y323.set (bt326.1 : Int).toNat (⟨wrap64 (1 + bt347.1), (rd_T47 y323 bt326.1).f1, (rd_T47 y323 bt326.1).f2, (rd_T47 y323 bt326.1).f3⟩ : S47)), bt347.2.1, bt347.2.2)) else (none)) else (none))) else (if bt329.1 = 4 then (if 0 ≤ (wrap64 (bt326.1 + 1)) then (if (wrap64 (bt326.1 + 1)) ≤ (y323.length : Int) then (some ((y323.take ((wrap64 (bt326.1 + 1)) : Int).toNat), bt329.2.1, bt329.2.2)) else (none)) else (none)) else (some (y323, bt329.2.1, bt329.2.2)))))))))) else (none))
theorem spec_l8Next.zI78 {P Q : Prop} (h : Aside0 P) (hw : P → Q := by intro h_; repeat (first | (with_reducible first | exact h_ | apply IsS78.alloc | apply IsS78.drew | apply IsS78.drewN | apply IsS78.set_1 | apply IsS78.set_2) | exact h_)) : Q := hw h.out
set_option maxHeartbeats 8000000 in
set_option maxRecDepth 100000 in
theorem spec_l8Next.calls (g : Nat) (s0_0 : List Int) (s0_1 : Int) (s0_2 : Int) (A1 : Option Addr) (c1 : Nat) (l1 : List (S47)) (r1 : List (S47)) (r2 : Int) (r3 : Int) (w0 w : World) (hI : IsS78 w0 w g s0_0 s0_1 s0_2) (hB : Below w0.heap.size w0 w) (hr1 : ∀ W_, KeepBut w W_ g none → Kd.C k47 W_ A1 l1.length l1) (hc1 : l1.length ≤ c1) (h : spec_l8Next.f s0_0 s0_1 s0_2 l1 = some (r1, r2, r3)) :
  Calls Try.prog 52 #[.pointer (some ⟨g, 0, none⟩), .slice A1 l1.length c1] w fun e w' => ∃ v0_ : Value, e = .returned (v0_) ∧ Kd.R k47 47 w' w.heap.size (fun _ => True) v0_ r1 ∧ IsS78 w0 w' g s0_0 r2 r3 ∧ Below w0.heap.size w0 w' ∧ KeepBut w w' g none := by
 have hu47 := Try.underlying47
 have HR1 := Aside0.mk hr1
 have HC1 := Aside0.mk hc1
 clear hr1 hc1
 have HI0 := Aside0.mk hI
 have HK := Aside0.mk (KeepBut.refl w g none)
 have HL := Aside0.mk hB.size
 clear hI
 have HW0 := Aside0.mk hB.size
 have HB := Aside0.mk hB
 clear hB
 have H : ((some (([] : List (S47)) : List (S47))).bind fun y320 => (if y320.length + l1.length < 4398046511104 then ((some (y320 ++ l1 : List (S47))).bind fun y323 => ((spec_l1Below.f s0_0 s0_1 s0_2 (y323.length : Int)).bind fun bt326 => ((spec_l1Below.f s0_0 bt326.2.1 bt326.2.2 6).bind fun bt329 => (if bt329.1 = 0 then (if 0 ≤ bt326.1 then (if bt326.1 < (y323.length : Int) then ((spec_Min.f 5 (wrap64 (((rd_T47 y323 bt326.1).f1) + 1))).bind fun t333 => (some ((y323.set (bt326.1 : Int).toNat (⟨(rd_T47 y323 bt326.1).f0, t333, (rd_T47 y323 bt326.1).f2, (rd_T47 y323 bt326.1).f3⟩ : S47)), bt329.2.1, bt329.2.2))) else (none)) else (none)) else (if bt329.1 = 1 then (if 0 ≤ bt326.1 then (if bt326.1 < (y323.length : Int) then ((spec_Max.f 1 (wrap64 (((rd_T47 y323 bt326.1).f1) - 1))).bind fun t336 => (some ((y323.set (bt326.1 : Int).toNat (⟨(rd_T47 y323 bt326.1).f0, t336, (rd_T47 y323 bt326.1).f2, (rd_T47 y323 bt326.1).f3⟩ : S47)), bt329.2.1, bt329.2.2))) else (none)) else (none)) else (if bt329.1 = 2 then (if (y323.length : Int) < 6 then ((spec_l1Below.f s0_0 bt329.2.1 bt329.2.2 3).bind fun bt338 => ((spec_l1Below.f s0_0 bt338.2.1 bt338.2.2 4).bind fun bt341 => (if y323.length < 4398046511104 then (some ((y323 ++ [(⟨wrap64 (1 + bt338.1), wrap64 (1 + bt341.1), (-1), 0⟩ : S47)]), bt341.2.1, bt341.2.2)) else (none)))) else (some (y323, bt329.2.1, bt329.2.2))) else (if bt329.1 = 3 then ((spec_l1Below.f s0_0 bt329.2.1 bt329.2.2 3).bind fun bt347 => (if 0 ≤ bt326.1 then (if bt326.1 < (y323.length : Int) then (some ((y323.set (bt326.1 : Int).toNat (⟨wrap64 (1 + bt347.1), (rd_T47 y323 bt326.1).f1, (rd_T47 y323 bt326.1).f2, (rd_T47 y323 bt326.1).f3⟩ : S47)), bt347.2.1, bt347.2.2)) else (none)) else (none))) else (if bt329.1 = 4 then (if 0 ≤ (wrap64 (bt326.1 + 1)) then (if (wrap64 (bt326.1 + 1)) ≤ (y323.length : Int) then (some ((y323.take ((wrap64 (bt326.1 + 1)) : Int).toNat), bt329.2.1, bt329.2.2)) else (none)) else (none)) else (some (y323, bt329.2.1, bt329.2.2)))))))))) else (none))) = some (r1, r2, r3) := h
 clear h
 obtain ⟨y320, hy320⟩ : ∃ y_ : List (S47), y_ = (([] : List (S47))) := ⟨_, rfl⟩
 replace H : (if y320.length + l1.length < 4398046511104 then ((some (y320 ++ l1 : List (S47))).bind fun y323 => ((spec_l1Below.f s0_0 s0_1 s0_2 (y323.length : Int)).bind fun bt326 => ((spec_l1Below.f s0_0 bt326.2.1 bt326.2.2 6).bind fun bt329 => (if bt329.1 = 0 then (if 0 ≤ bt326.1 then (if bt326.1 < (y323.length : Int) then ((spec_Min.f 5 (wrap64 (((rd_T47 y323 bt326.1).f1) + 1))).bind fun t333 => (some ((y323.set (bt326.1 : Int).toNat (⟨(rd_T47 y323 bt326.1).f0, t333, (rd_T47 y323 bt326.1).f2, (rd_T47 y323 bt326.1).f3⟩ : S47)), bt329.2.1, bt329.2.2))) else (none)) else (none)) else (if bt329.1 = 1 then (if 0 ≤ bt326.1 then (if bt326.1 < (y323.length : Int) then ((spec_Max.f 1 (wrap64 (((rd_T47 y323 bt326.1).f1) - 1))).bind fun t336 => (some ((y323.set (bt326.1 : Int).toNat (⟨(rd_T47 y323 bt326.1).f0, t336, (rd_T47 y323 bt326.1).f2, (rd_T47 y323 bt326.1).f3⟩ : S47)), bt329.2.1, bt329.2.2))) else (none)) else (none)) else (if bt329.1 = 2 then (if (y323.length : Int) < 6 then ((spec_l1Below.f s0_0 bt329.2.1 bt329.2.2 3).bind fun bt338 => ((spec_l1Below.f s0_0 bt338.2.1 bt338.2.2 4).bind fun bt341 => (if y323.length < 4398046511104 then (some ((y323 ++ [(⟨wrap64 (1 + bt338.1), wrap64 (1 + bt341.1), (-1), 0⟩ : S47)]), bt341.2.1, bt341.2.2)) else (none)))) else (some (y323, bt329.2.1, bt329.2.2))) else (if bt329.1 = 3 then ((spec_l1Below.f s0_0 bt329.2.1 bt329.2.2 3).bind fun bt347 => (if 0 ≤ bt326.1 then (if bt326.1 < (y323.length : Int) then (some ((y323.set (bt326.1 : Int).toNat (⟨wrap64 (1 + bt347.1), (rd_T47 y323 bt326.1).f1, (rd_T47 y323 bt326.1).f2, (rd_T47 y323 bt326.1).f3⟩ : S47)), bt347.2.1, bt347.2.2)) else (none)) else (none))) else (if bt329.1 = 4 then (if 0 ≤ (wrap64 (bt326.1 + 1)) then (if (wrap64 (bt326.1 + 1)) ≤ (y323.length : Int) then (some ((y323.take ((wrap64 (bt326.1 + 1)) : Int).toNat), bt329.2.1, bt329.2.2)) else (none)) else (none)) else (some (y323, bt329.2.1, bt329.2.2)))))))))) else (none)) = some (r1, r2, r3) := by first | (rw [hy320]; with_reducible exact H) | (have H2_ := (Option.bind_some _ _).symm.trans H; rw [hy320]; with_reducible exact H2_) | (have H2_ := (Option.bind_some _ _).symm.trans H; with_reducible exact H2_) | with_reducible exact H | (rw [hy320]; exact H) | exact H
 have Ny320 := Aside0.mk hy320
 clear hy320
 by_cases c3 : y320.length + l1.length < 4398046511104
 ·rw [if_pos c3] at H
  have LMc3 := Aside0.mk c3
  clear c3
  obtain ⟨y323, hy323⟩ : ∃ y_ : List (S47), y_ = (y320 ++ l1) := ⟨_, rfl⟩
  replace H : ((spec_l1Below.f s0_0 s0_1 s0_2 (y323.length : Int)).bind fun bt326 => ((spec_l1Below.f s0_0 bt326.2.1 bt326.2.2 6).bind fun bt329 => (if bt329.1 = 0 then (if 0 ≤ bt326.1 then (if bt326.1 < (y323.length : Int) then ((spec_Min.f 5 (wrap64 (((rd_T47 y323 bt326.1).f1) + 1))).bind fun t333 => (some ((y323.set (bt326.1 : Int).toNat (⟨(rd_T47 y323 bt326.1).f0, t333, (rd_T47 y323 bt326.1).f2, (rd_T47 y323 bt326.1).f3⟩ : S47)), bt329.2.1, bt329.2.2))) else (none)) else (none)) else (if bt329.1 = 1 then (if 0 ≤ bt326.1 then (if bt326.1 < (y323.length : Int) then ((spec_Max.f 1 (wrap64 (((rd_T47 y323 bt326.1).f1) - 1))).bind fun t336 => (some ((y323.set (bt326.1 : Int).toNat (⟨(rd_T47 y323 bt326.1).f0, t336, (rd_T47 y323 bt326.1).f2, (rd_T47 y323 bt326.1).f3⟩ : S47)), bt329.2.1, bt329.2.2))) else (none)) else (none)) else (if bt329.1 = 2 then (if (y323.length : Int) < 6 then ((spec_l1Below.f s0_0 bt329.2.1 bt329.2.2 3).bind fun bt338 => ((spec_l1Below.f s0_0 bt338.2.1 bt338.2.2 4).bind fun bt341 => (if y323.length < 4398046511104 then (some ((y323 ++ [(⟨wrap64 (1 + bt338.1), wrap64 (1 + bt341.1), (-1), 0⟩ : S47)]), bt341.2.1, bt341.2.2)) else (none)))) else (some (y323, bt329.2.1, bt329.2.2))) else (if bt329.1 = 3 then ((spec_l1Below.f s0_0 bt329.2.1 bt329.2.2 3).bind fun bt347 => (if 0 ≤ bt326.1 then (if bt326.1 < (y323.length : Int) then (some ((y323.set (bt326.1 : Int).toNat (⟨wrap64 (1 + bt347.1), (rd_T47 y323 bt326.1).f1, (rd_T47 y323 bt326.1).f2, (rd_T47 y323 bt326.1).f3⟩ : S47)), bt347.2.1, bt347.2.2)) else (none)) else (none))) else (if bt329.1 = 4 then (if 0 ≤ (wrap64 (bt326.1 + 1)) then (if (wrap64 (bt326.1 + 1)) ≤ (y323.length : Int) then (some ((y323.take ((wrap64 (bt326.1 + 1)) : Int).toNat), bt329.2.1, bt329.2.2)) else (none)) else (none)) else (some (y323, bt329.2.1, bt329.2.2))))))))) = some (r1, r2, r3) := by first | (rw [hy323]; with_reducible exact H) | (have H2_ := (Option.bind_some _ _).symm.trans H; rw [hy323]; with_reducible exact H2_) | (have H2_ := (Option.bind_some _ _).symm.trans H; with_reducible exact H2_) | with_reducible exact H | (rw [hy323]; exact H) | exact H
  have Ny323 := Aside0.mk hy323
  clear hy323
  replace H := Option.bind_eq_some_iff.mp H
  obtain ⟨⟨t326, t327, t328⟩, A40, H⟩ := H
  replace H : ((spec_l1Below.f s0_0 t327 t328 6).bind fun bt329 => (if bt329.1 = 0 then (if 0 ≤ t326 then (if t326 < (y323.length : Int) then ((spec_Min.f 5 (wrap64 (((rd_T47 y323 t326).f1) + 1))).bind fun t333 => (some ((y323.set (t326 : Int).toNat (⟨(rd_T47 y323 t326).f0, t333, (rd_T47 y323 t326).f2, (rd_T47 y323 t326).f3⟩ : S47)), bt329.2.1, bt329.2.2))) else (none)) else (none)) else (if bt329.1 = 1 then (if 0 ≤ t326 then (if t326 < (y323.length : Int) then ((spec_Max.f 1 (wrap64 (((rd_T47 y323 t326).f1) - 1))).bind fun t336 => (some ((y323.set (t326 : Int).toNat (⟨(rd_T47 y323 t326).f0, t336, (rd_T47 y323 t326).f2, (rd_T47 y323 t326).f3⟩ : S47)), bt329.2.1, bt329.2.2))) else (none)) else (none)) else (if bt329.1 = 2 then (if (y323.length : Int) < 6 then ((spec_l1Below.f s0_0 bt329.2.1 bt329.2.2 3).bind fun bt338 => ((spec_l1Below.f s0_0 bt338.2.1 bt338.2.2 4).bind fun bt341 => (if y323.length < 4398046511104 then (some ((y323 ++ [(⟨wrap64 (1 + bt338.1), wrap64 (1 + bt341.1), (-1), 0⟩ : S47)]), bt341.2.1, bt341.2.2)) else (none)))) else (some (y323, bt329.2.1, bt329.2.2))) else (if bt329.1 = 3 then ((spec_l1Below.f s0_0 bt329.2.1 bt329.2.2 3).bind fun bt347 => (if 0 ≤ t326 then (if t326 < (y323.length : Int) then (some ((y323.set (t326 : Int).toNat (⟨wrap64 (1 + bt347.1), (rd_T47 y323 t326).f1, (rd_T47 y323 t326).f2, (rd_T47 y323 t326).f3⟩ : S47)), bt347.2.1, bt347.2.2)) else (none)) else (none))) else (if bt329.1 = 4 then (if 0 ≤ (wrap64 (t326 + 1)) then (if (wrap64 (t326 + 1)) ≤ (y323.length : Int) then (some ((y323.take ((wrap64 (t326 + 1)) : Int).toNat), bt329.2.1, bt329.2.2)) else (none)) else (none)) else (some (y323, bt329.2.1, bt329.2.2)))))))) = some (r1, r2, r3) := H
  have A4 := Aside0.mk A40
  clear A40
  replace H := Option.bind_eq_some_iff.mp H
  obtain ⟨⟨t329, t330, t331⟩, A50, H⟩ := H
  replace H : (if t329 = 0 then (if 0 ≤ t326 then (if t326 < (y323.length : Int) then ((spec_Min.f 5 (wrap64 (((rd_T47 y323 t326).f1) + 1))).bind fun t333 => (some ((y323.set (t326 : Int).toNat (⟨(rd_T47 y323 t326).f0, t333, (rd_T47 y323 t326).f2, (rd_T47 y323 t326).f3⟩ : S47)), t330, t331))) else (none)) else (none)) else (if t329 = 1 then (if 0 ≤ t326 then (if t326 < (y323.length : Int) then ((spec_Max.f 1 (wrap64 (((rd_T47 y323 t326).f1) - 1))).bind fun t336 => (some ((y323.set (t326 : Int).toNat (⟨(rd_T47 y323 t326).f0, t336, (rd_T47 y323 t326).f2, (rd_T47 y323 t326).f3⟩ : S47)), t330, t331))) else (none)) else (none)) else (if t329 = 2 then (if (y323.length : Int) < 6 then ((spec_l1Below.f s0_0 t330 t331 3).bind fun bt338 => ((spec_l1Below.f s0_0 bt338.2.1 bt338.2.2 4).bind fun bt341 => (if y323.length < 4398046511104 then (some ((y323 ++ [(⟨wrap64 (1 + bt338.1), wrap64 (1 + bt341.1), (-1), 0⟩ : S47)]), bt341.2.1, bt341.2.2)) else (none)))) else (some (y323, t330, t331))) else (if t329 = 3 then ((spec_l1Below.f s0_0 t330 t331 3).bind fun bt347 => (if 0 ≤ t326 then (if t326 < (y323.length : Int) then (some ((y323.set (t326 : Int).toNat (⟨wrap64 (1 + bt347.1), (rd_T47 y323 t326).f1, (rd_T47 y323 t326).f2, (rd_T47 y323 t326).f3⟩ : S47)), bt347.2.1, bt347.2.2)) else (none)) else (none))) else (if t329 = 4 then (if 0 ≤ (wrap64 (t326 + 1)) then (if (wrap64 (t326 + 1)) ≤ (y323.length : Int) then (some ((y323.take ((wrap64 (t326 + 1)) : Int).toNat), t330, t331)) else (none)) else (none)) else (some (y323, t330, t331))))))) = some (r1, r2, r3) := H
  have A5 := Aside0.mk A50
  clear A50
  by_cases c6 : t329 = 0
  ·rw [if_pos c6] at H
   have c6b0 : (t329 == 0) = true := beq_iff_eq.mpr c6
   have c6b1 : (t329 != 0) = false := bne_eq_false_iff_eq.mpr c6
   clear c6
   obtain ⟨c7, H⟩ := ifS H
   have c7b0 : decide (0 ≤ t326) = true := decide_eq_true c7
   clear c7
   obtain ⟨c8, H⟩ := ifS H
   have c8b0 : decide (t326 < (y323.length : Int)) = true := decide_eq_true c8
   clear c8
   obtain ⟨t333, A9, H⟩ := bindS H
   obtain ⟨y334, hy334⟩ : ∃ y_ : List (S47), y_ = (y323.set (t326 : Int).toNat (⟨(rd_T47 y323 t326).f0, t333, (rd_T47 y323 t326).f2, (rd_T47 y323 t326).f3⟩ : S47)) := ⟨_, rfl⟩
   replace H : (some (y334, t330, t331)) = some (r1, r2, r3) := by first | (rw [hy334]; with_reducible exact H) | (have H2_ := (Option.bind_some _ _).symm.trans H; rw [hy334]; with_reducible exact H2_) | (have H2_ := (Option.bind_some _ _).symm.trans H; with_reducible exact H2_) | with_reducible exact H | (rw [hy334]; exact H) | exact H
   have Ny334 := Aside0.mk hy334
   clear hy334
   simp only [Option.some.injEq, Prod.mk.injEq] at H
   obtain ⟨rfl, rfl, rfl⟩ := H
   go_enter Try.func52, Try.ntmps52
   go_wp2_with (first | ((with_reducible refine gate_dst (N := 7) rfl ?_); refine Kd.R_lit k47 _ 47 ?hg (N := 7) ?hd (xs := ([] : List (S47))) (inner := []) (ok := fun _ => True) (okp := fun _ => True) ?hr ?hp (fun _ hk => hk) trivial (Below.refl _ _) (Nat.le_refl _) (by simp) ?_; (case hd => rfl); (case hg => rfl); (case hr => first | (go_simp; done) | (go_simp; rfl)); (case hp => exact (Reps.none _ _)); intro v321 w11 ho12 hb hg_ hnew_; clear hg_ hnew_; (first | rw [← Ny320.out] at ho12 | (simp only [Int.reduceToNat] at ho12; rw [← Ny320.out] at ho12)); have HO322 := Aside0.mk (Kd.R_lower ho12 (keep_size (w := w) (g := g) (row := none) (zH HK))); replace HK := Aside0.mk (KeepBut.trans (zH HK) (KeepBut.of_below hb g none) (.inl rfl)); replace HB := Aside0.mk (below_step (by repeat (first | (with_reducible first | exact HB.out | apply below_alloc | apply pw_below_drewN | apply below_drew1 | refine below_set ?_ (IsS78.ge HI0.out)) | exact HB.out)) hb); replace HI0 := Aside0.mk (IsS78.below (spec_l8Next.zI78 HI0) hb); clear hb ho12) | ((with_reducible refine gate_builtin (b := .append) (xs := #[.tmp 7, .tmp 8]) rfl ?_); at_builtin; refine Kd.R_append_rows k47 w.heap.size rfl (.tmp 7) (.tmp 8) 25 47 (.agg #[(.int .i64 0), (.int .i64 0), (.int .i64 0), (.int .i64 0)]) 32 rfl Try.underlying25 info47 rfl (by decide) (by omega) v321 y320 l1 _ _ _ (fun _ => True) (fun _ => False) rfl rfl ?aO ?aR (fun _ _ h => h) (fun _ h => h.elim) ?aF (Below.refl _ _) ?aS ?aL ?_; (case aR => exact Kd.C_foot_now HR1.out (zH HK)); (case aF => exact (fun _ _ => trivial)); (case aO => exact (zR HO322)); (case aS => exact (keep_size (w := w) (g := g) (row := none) (zH HK))); (case aL => have := LMc3.out; omega); intro v324 w13 ho hb hg hat; rw [← Ny323.out] at ho; replace HB := Aside0.mk (below_weaken (by repeat (first | (with_reducible first | exact HB.out | apply below_alloc | apply pw_below_drewN | apply below_drew1 | refine below_set ?_ (IsS78.ge HI0.out)) | exact HB.out)) HL.out hb); replace HI0 := Aside0.mk (IsS78.grown (spec_l8Next.zI78 HI0) hg (IsS78.own_ne HI0.out HO322.out (by decide))); replace HK := Aside0.mk (KeepBut.trans (zH HK) (KeepBut.of_grown hg g) (Kd.R_base2 HO322.out)); have HO325 := Aside0.mk (ho); clear HO322; clear ho hb hg hat; obtain ⟨Ao14, co14, eo14⟩ := Kd.R_slice HO325.out; subst eo14) | ((with_reducible refine gate_callee (f := 53) rfl ?_); refine goesL_ (some 13) rfl rfl Try.func53 (by kernel_rfl) rfl #[.pointer (some ⟨g, 0, none⟩), .int .i64 (y323.length : Int)] rfl zG ?_; (with_reducible refine (spec_l1Below.calls g s0_0 s0_1 s0_2 (y323.length : Int) t326 t327 t328 w0 _ ?side1 ?side2 A4.out).mono ?_); (case side1 => exact spec_l8Next.zI78 HI0); (case side2 => repeat (first | (with_reducible first | exact HB.out | apply below_alloc | apply pw_below_drewN | apply below_drew1 | refine below_set ?_ (IsS78.ge HI0.out)) | exact HB.out)); rintro e w15 ⟨rfl, hi, hb, hk⟩; refine ⟨_, rfl, ?_⟩; replace HO325 := Aside0.mk (Kd.R_mono (Kd.R_keep (IsS78.apart (show IsS78 w0 _ g s0_0 s0_1 s0_2 from spec_l8Next.zI78 HI0) (zR HO325) (by decide)) hk (fun _ h => h.2)) (fun _ h => h.1)); replace HK := Aside0.mk (KeepBut.trans (zH HK) hk (.inl rfl)); replace HB := Aside0.mk (hb); replace HI0 := Aside0.mk (hi); (try clear hb)) | ((with_reducible refine gate_callee (f := 53) rfl ?_); refine goesL_ (some 15) rfl rfl Try.func53 (by kernel_rfl) rfl #[.pointer (some ⟨g, 0, none⟩), .int .i64 6] rfl zG ?_; (with_reducible refine (spec_l1Below.calls g s0_0 t327 t328 6 t329 t330 t331 w0 _ ?side1 ?side2 A5.out).mono ?_); (case side1 => exact spec_l8Next.zI78 HI0); (case side2 => repeat (first | (with_reducible first | exact HB.out | apply below_alloc | apply pw_below_drewN | apply below_drew1 | refine below_set ?_ (IsS78.ge HI0.out)) | exact HB.out)); rintro e w16 ⟨rfl, hi, hb, hk⟩; refine ⟨_, rfl, ?_⟩; replace HO325 := Aside0.mk (Kd.R_mono (Kd.R_keep (IsS78.apart (show IsS78 w0 _ g s0_0 t327 t328 from spec_l8Next.zI78 HI0) (zR HO325) (by decide)) hk (fun _ h => h.2)) (fun _ h => h.1)); replace HK := Aside0.mk (KeepBut.trans (zH HK) hk (.inl rfl)); replace HB := Aside0.mk (hb); replace HI0 := Aside0.mk (hi); (try clear hb); have p332 : 0 ≤ (t326 : Int) := zD; have q332 : t326 < (y323.length : Int) := zD; obtain ⟨ad332, e332, hx332_0, hx332_1, hx332_2, hx332_3⟩ := at_T47 (Kd.R_reads' HO325.out).2.2 t326 p332 q332; cases e332; replace p332 := eq_true p332; replace q332 := eq_true q332) | ((with_reducible refine gate_callee (f := 65) rfl ?_); refine goesL_ (some 26) rfl rfl Try.func65 (by kernel_rfl) rfl #[.int .i64 5, .int .i64 (wrap64 (((rd_T47 y323 t326).f1) + 1))] rfl zG ?_; (with_reducible refine (spec_Min.calls 5 (wrap64 (((rd_T47 y323 t326).f1) + 1)) t333 _ A9.out).mono ?_); rintro e w' ⟨rfl, ⟨nd, rfl⟩⟩; refine ⟨_, rfl, ?_⟩; (try (rw [drewN_self w16]; generalize hq_ : World.drewN w16 _ = w16; have n0_ : Aside0 (Kd.R k47 47 w16 w.heap.size (fun _ => True) (.slice (some ad332) y323.length co14) y323) := ⟨by rw [← hq_]; exact (zR HO325)⟩; have n1_ : Aside0 (IsS78 w0 w16 g s0_0 t330 t331) := ⟨by rw [← hq_]; exact (spec_l8Next.zI78 HI0)⟩; have n2_ : Aside0 (KeepBut w w16 g none) := ⟨by rw [← hq_]; exact (zH HK)⟩; have n3_ : Aside0 (Below w0.heap.size w0 w16) := ⟨by rw [← hq_]; exact (by repeat (first | (with_reducible first | exact HB.out | apply below_alloc | apply pw_below_drewN | apply below_drew1 | refine below_set ?_ (IsS78.ge HI0.out)) | exact HB.out))⟩; clear HO325 HI0 HK HB hq_; have HO325 := n0_; have HI0 := n1_; have HK := n2_; have HB := n3_; clear n0_ n1_ n2_ n3_)); have p10 : 0 ≤ (t326 : Int) := zD; have q10 : (t326 : Int) < ((y323.length : Int) : Int) := zD; obtain ⟨go10, co10, eo10, gb10, gl10, cl10, HG10⟩ := Kd.R_form HO325.out (by omega); (first | cases eo10 | (injection eo10 with ea_ en_ ec_; (first | subst ea_ | (injection ea_ with ea_; subst ea_)); subst ec_; clear en_)); have GB10 := Aside0.mk gb10; have GG10 := Aside0.mk HG10; clear gb10 gl10 HG10; (first | simp only [add_plain] at hx332_0 | skip); (first | simp only [add_plain] at hx332_1 | skip); (first | simp only [add_plain] at hx332_2 | skip); (first | simp only [add_plain] at hx332_3 | skip); obtain ⟨ce10, hcl10, hM10, hcc10, hfr10⟩ := Kd.R_elem HO325.out z47 (t326 : Int) p10 q10; obtain rfl := k47_openM hM10; have hx10_0 : w16.cell? ⟨go10, (t326 : Int).toNat * 4, none⟩ = some (.int .i64 ((rd_T47 y323 t326).f0)) := hcc10 0 _ rfl; have hx10_1 : w16.cell? ⟨go10, (t326 : Int).toNat * 4 + 1, none⟩ = some (.int .i64 ((rd_T47 y323 t326).f1)) := hcc10 1 _ rfl; have hx10_2 : w16.cell? ⟨go10, (t326 : Int).toNat * 4 + 2, none⟩ = some (.int .i64 ((rd_T47 y323 t326).f2)) := hcc10 2 _ rfl; have hx10_3 : w16.cell? ⟨go10, (t326 : Int).toNat * 4 + 3, none⟩ = some (.int .i64 ((rd_T47 y323 t326).f3)) := hcc10 3 _ rfl; have hf10_0 : w16.frozen? ⟨go10, (t326 : Int).toNat * 4, none⟩ = false := hfr10 0; have hf10_1 : w16.frozen? ⟨go10, (t326 : Int).toNat * 4 + 1, none⟩ = false := hfr10 1; have hf10_2 : w16.frozen? ⟨go10, (t326 : Int).toNat * 4 + 2, none⟩ = false := hfr10 2; have hf10_3 : w16.frozen? ⟨go10, (t326 : Int).toNat * 4 + 3, none⟩ = false := hfr10 3; clear hcl10 hcc10 hfr10 hM10; replace p10 := eq_true p10; replace q10 := eq_true q10; have HX17 := Aside0.mk (show Kd.R k47 47 w16 w.heap.size (fun _ => True) (.slice (some ⟨go10, 0, none⟩) y323.length co14) y323 from (zR HO325)); obtain ⟨ce17, hcl17, hM17, hcc17, hfr17⟩ := Kd.R_elem HX17.out z47 (t326 : Int) (zD) (by have h_ : (t326 : Int) < ((y323.length : Int) : Int) := zD; first | exact h_ | (have e_ := (Kd.R_reads' HO325.out).1; omega) | simpa using h_); obtain rfl := k47_openM hM17; have HP17 := Kd.R_seg HX17.out (t326 : Int) (zD) (by have h_ : (t326 : Int) < ((y323.length : Int) : Int) := zD; first | exact h_ | (have e_ := (Kd.R_reads' HO325.out).1; omega) | simpa using h_) (seg := [.int .i64 t333]) (j := 1) hcl17 hcc17 (show 2 ≤ 4 from by decide) (x' := (⟨(rd_T47 y323 t326).f0, t333, (rd_T47 y323 t326).f2, (rd_T47 y323 t326).f3⟩ : S47)) (k47_mkM _ _ _ (⟨(rd_T47 y323 t326).f0, t333, (rd_T47 y323 t326).f2, (rd_T47 y323 t326).f3⟩ : S47) ) (fun _ hk => hk); have hx17_1 := hcc17 1 _ rfl; (try simp only [show (k47).sz = 4 from rfl, Nat.mul_one, Nat.add_zero] at hx17_1); have hf17_1 := hfr17 1; (try simp only [show (k47).sz = 4 from rfl, Nat.mul_one, Nat.add_zero] at hf17_1); clear hcl17 hcc17 hfr17 hM17) | ((with_reducible refine gate_store (t := 3) (p := 28) rfl ?_); refine store_event (t := 3) (p := 28) (v := ?vo_w18) (w1 := (w16.setCell ⟨go10, (t326 : Int).toNat * 4 + 1, none⟩ (.int .i64 t333))) ?hg ?ho ?hn ?hr ?_; (case ho => rfl); (case hg => rfl); (case hn => rfl); (case hr => first | (go_simp; done) | (go_simp; rfl)); intro w18 hw; have hg : w16.grownBy w18 (some go10) := (by rw [hw]; exact HP17.2); have hp_ : Kd.R k47 47 w18 w.heap.size (fun _ => True) (.slice (some ⟨go10, 0, none⟩) y323.length co14) y334 := (by rw [hw, Ny334.out]; exact HP17.1); clear HP17; replace HI0 := Aside0.mk (IsS78.grown (spec_l8Next.zI78 HI0) hg (IsS78.own_ne HI0.out HO325.out (by decide))); replace HB := Aside0.mk ((by rw [hw]; exact below_set (HB.out) (Nat.le_trans HL.out GB10.out) : Below w0.heap.size w0 w18)); replace HK := Aside0.mk (KeepBut.trans (zH HK) (KeepBut.of_grown hg g) (Kd.R_base2 HO325.out)); replace HO325 := Aside0.mk (hp_); clear hg hw hp_))
   go_ret
   exact ⟨_, zE, by (with_reducible repeat (first | apply Kd.R_alloc | apply Kd.R_drewN | apply Kd.R_drew)); exact HO325.out, spec_l8Next.zI78 HI0, by repeat (first | (with_reducible first | exact HB.out | apply below_alloc | apply pw_below_drewN | apply below_drew1 | refine below_set ?_ (IsS78.ge HI0.out)) | exact HB.out), zH HK⟩
  ·rw [if_neg c6] at H
   have c6b0 : (t329 == 0) = false := beq_eq_false_iff_ne.mpr c6
   have c6b1 : (t329 != 0) = true := bne_iff_ne.mpr c6
   by_cases c19 : t329 = 1
   ·rw [if_pos c19] at H
    have c19b0 : (t329 == 1) = true := beq_iff_eq.mpr c19
    have c19b1 : (t329 != 1) = false := bne_eq_false_iff_eq.mpr c19
    clear c19
    obtain ⟨c20, H⟩ := ifS H
    have c20b0 : decide (0 ≤ t326) = true := decide_eq_true c20
    clear c20
    obtain ⟨c21, H⟩ := ifS H
    have c21b0 : decide (t326 < (y323.length : Int)) = true := decide_eq_true c21
    clear c21
    obtain ⟨t336, A22, H⟩ := bindS H
    obtain ⟨y337, hy337⟩ : ∃ y_ : List (S47), y_ = (y323.set (t326 : Int).toNat (⟨(rd_T47 y323 t326).f0, t336, (rd_T47 y323 t326).f2, (rd_T47 y323 t326).f3⟩ : S47)) := ⟨_, rfl⟩
    replace H : (some (y337, t330, t331)) = some (r1, r2, r3) := by first | (rw [hy337]; with_reducible exact H) | (have H2_ := (Option.bind_some _ _).symm.trans H; rw [hy337]; with_reducible exact H2_) | (have H2_ := (Option.bind_some _ _).symm.trans H; with_reducible exact H2_) | with_reducible exact H | (rw [hy337]; exact H) | exact H
    have Ny337 := Aside0.mk hy337
    clear hy337
    simp only [Option.some.injEq, Prod.mk.injEq] at H
    obtain ⟨rfl, rfl, rfl⟩ := H
    go_enter Try.func52, Try.ntmps52
    go_wp2_with (first | ((with_reducible refine gate_dst (N := 7) rfl ?_); refine Kd.R_lit k47 _ 47 ?hg (N := 7) ?hd (xs := ([] : List (S47))) (inner := []) (ok := fun _ => True) (okp := fun _ => True) ?hr ?hp (fun _ hk => hk) trivial (Below.refl _ _) (Nat.le_refl _) (by simp) ?_; (case hd => rfl); (case hg => rfl); (case hr => first | (go_simp; done) | (go_simp; rfl)); (case hp => exact (Reps.none _ _)); intro v321 w24 ho25 hb hg_ hnew_; clear hg_ hnew_; (first | rw [← Ny320.out] at ho25 | (simp only [Int.reduceToNat] at ho25; rw [← Ny320.out] at ho25)); have HO322 := Aside0.mk (Kd.R_lower ho25 (keep_size (w := w) (g := g) (row := none) (zH HK))); replace HK := Aside0.mk (KeepBut.trans (zH HK) (KeepBut.of_below hb g none) (.inl rfl)); replace HB := Aside0.mk (below_step (by repeat (first | (with_reducible first | exact HB.out | apply below_alloc | apply pw_below_drewN | apply below_drew1 | refine below_set ?_ (IsS78.ge HI0.out)) | exact HB.out)) hb); replace HI0 := Aside0.mk (IsS78.below (spec_l8Next.zI78 HI0) hb); clear hb ho25) | ((with_reducible refine gate_builtin (b := .append) (xs := #[.tmp 7, .tmp 8]) rfl ?_); at_builtin; refine Kd.R_append_rows k47 w.heap.size rfl (.tmp 7) (.tmp 8) 25 47 (.agg #[(.int .i64 0), (.int .i64 0), (.int .i64 0), (.int .i64 0)]) 32 rfl Try.underlying25 info47 rfl (by decide) (by omega) v321 y320 l1 _ _ _ (fun _ => True) (fun _ => False) rfl rfl ?aO ?aR (fun _ _ h => h) (fun _ h => h.elim) ?aF (Below.refl _ _) ?aS ?aL ?_; (case aR => exact Kd.C_foot_now HR1.out (zH HK)); (case aF => exact (fun _ _ => trivial)); (case aO => exact (zR HO322)); (case aS => exact (keep_size (w := w) (g := g) (row := none) (zH HK))); (case aL => have := LMc3.out; omega); intro v324 w26 ho hb hg hat; rw [← Ny323.out] at ho; replace HB := Aside0.mk (below_weaken (by repeat (first | (with_reducible first | exact HB.out | apply below_alloc | apply pw_below_drewN | apply below_drew1 | refine below_set ?_ (IsS78.ge HI0.out)) | exact HB.out)) HL.out hb); replace HI0 := Aside0.mk (IsS78.grown (spec_l8Next.zI78 HI0) hg (IsS78.own_ne HI0.out HO322.out (by decide))); replace HK := Aside0.mk (KeepBut.trans (zH HK) (KeepBut.of_grown hg g) (Kd.R_base2 HO322.out)); have HO325 := Aside0.mk (ho); clear HO322; clear ho hb hg hat; obtain ⟨Ao27, co27, eo27⟩ := Kd.R_slice HO325.out; subst eo27) | ((with_reducible refine gate_callee (f := 53) rfl ?_); refine goesL_ (some 13) rfl rfl Try.func53 (by kernel_rfl) rfl #[.pointer (some ⟨g, 0, none⟩), .int .i64 (y323.length : Int)] rfl zG ?_; (with_reducible refine (spec_l1Below.calls g s0_0 s0_1 s0_2 (y323.length : Int) t326 t327 t328 w0 _ ?side1 ?side2 A4.out).mono ?_); (case side1 => exact spec_l8Next.zI78 HI0); (case side2 => repeat (first | (with_reducible first | exact HB.out | apply below_alloc | apply pw_below_drewN | apply below_drew1 | refine below_set ?_ (IsS78.ge HI0.out)) | exact HB.out)); rintro e w28 ⟨rfl, hi, hb, hk⟩; refine ⟨_, rfl, ?_⟩; replace HO325 := Aside0.mk (Kd.R_mono (Kd.R_keep (IsS78.apart (show IsS78 w0 _ g s0_0 s0_1 s0_2 from spec_l8Next.zI78 HI0) (zR HO325) (by decide)) hk (fun _ h => h.2)) (fun _ h => h.1)); replace HK := Aside0.mk (KeepBut.trans (zH HK) hk (.inl rfl)); replace HB := Aside0.mk (hb); replace HI0 := Aside0.mk (hi); (try clear hb)) | ((with_reducible refine gate_callee (f := 53) rfl ?_); refine goesL_ (some 15) rfl rfl Try.func53 (by kernel_rfl) rfl #[.pointer (some ⟨g, 0, none⟩), .int .i64 6] rfl zG ?_; (with_reducible refine (spec_l1Below.calls g s0_0 t327 t328 6 t329 t330 t331 w0 _ ?side1 ?side2 A5.out).mono ?_); (case side1 => exact spec_l8Next.zI78 HI0); (case side2 => repeat (first | (with_reducible first | exact HB.out | apply below_alloc | apply pw_below_drewN | apply below_drew1 | refine below_set ?_ (IsS78.ge HI0.out)) | exact HB.out)); rintro e w29 ⟨rfl, hi, hb, hk⟩; refine ⟨_, rfl, ?_⟩; replace HO325 := Aside0.mk (Kd.R_mono (Kd.R_keep (IsS78.apart (show IsS78 w0 _ g s0_0 t327 t328 from spec_l8Next.zI78 HI0) (zR HO325) (by decide)) hk (fun _ h => h.2)) (fun _ h => h.1)); replace HK := Aside0.mk (KeepBut.trans (zH HK) hk (.inl rfl)); replace HB := Aside0.mk (hb); replace HI0 := Aside0.mk (hi); (try clear hb); have p335 : 0 ≤ (t326 : Int) := zD; have q335 : t326 < (y323.length : Int) := zD; obtain ⟨ad335, e335, hx335_0, hx335_1, hx335_2, hx335_3⟩ := at_T47 (Kd.R_reads' HO325.out).2.2 t326 p335 q335; cases e335; replace p335 := eq_true p335; replace q335 := eq_true q335) | ((with_reducible refine gate_callee (f := 66) rfl ?_); refine goesL_ (some 39) rfl rfl Try.func66 (by kernel_rfl) rfl #[.int .i64 1, .int .i64 (wrap64 (((rd_T47 y323 t326).f1) - 1))] rfl zG ?_; (with_reducible refine (spec_Max.calls 1 (wrap64 (((rd_T47 y323 t326).f1) - 1)) t336 _ A22.out).mono ?_); rintro e w' ⟨rfl, ⟨nd, rfl⟩⟩; refine ⟨_, rfl, ?_⟩; (try (rw [drewN_self w29]; generalize hq_ : World.drewN w29 _ = w29; have n0_ : Aside0 (Kd.R k47 47 w29 w.heap.size (fun _ => True) (.slice (some ad335) y323.length co27) y323) := ⟨by rw [← hq_]; exact (zR HO325)⟩; have n1_ : Aside0 (IsS78 w0 w29 g s0_0 t330 t331) := ⟨by rw [← hq_]; exact (spec_l8Next.zI78 HI0)⟩; have n2_ : Aside0 (KeepBut w w29 g none) := ⟨by rw [← hq_]; exact (zH HK)⟩; have n3_ : Aside0 (Below w0.heap.size w0 w29) := ⟨by rw [← hq_]; exact (by repeat (first | (with_reducible first | exact HB.out | apply below_alloc | apply pw_below_drewN | apply below_drew1 | refine below_set ?_ (IsS78.ge HI0.out)) | exact HB.out))⟩; clear HO325 HI0 HK HB hq_; have HO325 := n0_; have HI0 := n1_; have HK := n2_; have HB := n3_; clear n0_ n1_ n2_ n3_)); have p23 : 0 ≤ (t326 : Int) := zD; have q23 : (t326 : Int) < ((y323.length : Int) : Int) := zD; obtain ⟨go23, co23, eo23, gb23, gl23, cl23, HG23⟩ := Kd.R_form HO325.out (by omega); (first | cases eo23 | (injection eo23 with ea_ en_ ec_; (first | subst ea_ | (injection ea_ with ea_; subst ea_)); subst ec_; clear en_)); have GB23 := Aside0.mk gb23; have GG23 := Aside0.mk HG23; clear gb23 gl23 HG23; (first | simp only [add_plain] at hx335_0 | skip); (first | simp only [add_plain] at hx335_1 | skip); (first | simp only [add_plain] at hx335_2 | skip); (first | simp only [add_plain] at hx335_3 | skip); obtain ⟨ce23, hcl23, hM23, hcc23, hfr23⟩ := Kd.R_elem HO325.out z47 (t326 : Int) p23 q23; obtain rfl := k47_openM hM23; have hx23_0 : w29.cell? ⟨go23, (t326 : Int).toNat * 4, none⟩ = some (.int .i64 ((rd_T47 y323 t326).f0)) := hcc23 0 _ rfl; have hx23_1 : w29.cell? ⟨go23, (t326 : Int).toNat * 4 + 1, none⟩ = some (.int .i64 ((rd_T47 y323 t326).f1)) := hcc23 1 _ rfl; have hx23_2 : w29.cell? ⟨go23, (t326 : Int).toNat * 4 + 2, none⟩ = some (.int .i64 ((rd_T47 y323 t326).f2)) := hcc23 2 _ rfl; have hx23_3 : w29.cell? ⟨go23, (t326 : Int).toNat * 4 + 3, none⟩ = some (.int .i64 ((rd_T47 y323 t326).f3)) := hcc23 3 _ rfl; have hf23_0 : w29.frozen? ⟨go23, (t326 : Int).toNat * 4, none⟩ = false := hfr23 0; have hf23_1 : w29.frozen? ⟨go23, (t326 : Int).toNat * 4 + 1, none⟩ = false := hfr23 1; have hf23_2 : w29.frozen? ⟨go23, (t326 : Int).toNat * 4 + 2, none⟩ = false := hfr23 2; have hf23_3 : w29.frozen? ⟨go23, (t326 : Int).toNat * 4 + 3, none⟩ = false := hfr23 3; clear hcl23 hcc23 hfr23 hM23; replace p23 := eq_true p23; replace q23 := eq_true q23; have HX30 := Aside0.mk (show Kd.R k47 47 w29 w.heap.size (fun _ => True) (.slice (some ⟨go23, 0, none⟩) y323.length co27) y323 from (zR HO325)); obtain ⟨ce30, hcl30, hM30, hcc30, hfr30⟩ := Kd.R_elem HX30.out z47 (t326 : Int) (zD) (by have h_ : (t326 : Int) < ((y323.length : Int) : Int) := zD; first | exact h_ | (have e_ := (Kd.R_reads' HO325.out).1; omega) | simpa using h_); obtain rfl := k47_openM hM30; have HP30 := Kd.R_seg HX30.out (t326 : Int) (zD) (by have h_ : (t326 : Int) < ((y323.length : Int) : Int) := zD; first | exact h_ | (have e_ := (Kd.R_reads' HO325.out).1; omega) | simpa using h_) (seg := [.int .i64 t336]) (j := 1) hcl30 hcc30 (show 2 ≤ 4 from by decide) (x' := (⟨(rd_T47 y323 t326).f0, t336, (rd_T47 y323 t326).f2, (rd_T47 y323 t326).f3⟩ : S47)) (k47_mkM _ _ _ (⟨(rd_T47 y323 t326).f0, t336, (rd_T47 y323 t326).f2, (rd_T47 y323 t326).f3⟩ : S47) ) (fun _ hk => hk); have hx30_1 := hcc30 1 _ rfl; (try simp only [show (k47).sz = 4 from rfl, Nat.mul_one, Nat.add_zero] at hx30_1); have hf30_1 := hfr30 1; (try simp only [show (k47).sz = 4 from rfl, Nat.mul_one, Nat.add_zero] at hf30_1); clear hcl30 hcc30 hfr30 hM30) | ((with_reducible refine gate_store (t := 3) (p := 41) rfl ?_); refine store_event (t := 3) (p := 41) (v := ?vo_w31) (w1 := (w29.setCell ⟨go23, (t326 : Int).toNat * 4 + 1, none⟩ (.int .i64 t336))) ?hg ?ho ?hn ?hr ?_; (case ho => rfl); (case hg => rfl); (case hn => rfl); (case hr => first | (go_simp; done) | (go_simp; rfl)); intro w31 hw; have hg : w29.grownBy w31 (some go23) := (by rw [hw]; exact HP30.2); have hp_ : Kd.R k47 47 w31 w.heap.size (fun _ => True) (.slice (some ⟨go23, 0, none⟩) y323.length co27) y337 := (by rw [hw, Ny337.out]; exact HP30.1); clear HP30; replace HI0 := Aside0.mk (IsS78.grown (spec_l8Next.zI78 HI0) hg (IsS78.own_ne HI0.out HO325.out (by decide))); replace HB := Aside0.mk ((by rw [hw]; exact below_set (HB.out) (Nat.le_trans HL.out GB23.out) : Below w0.heap.size w0 w31)); replace HK := Aside0.mk (KeepBut.trans (zH HK) (KeepBut.of_grown hg g) (Kd.R_base2 HO325.out)); replace HO325 := Aside0.mk (hp_); clear hg hw hp_))
    go_ret
    exact ⟨_, zE, by (with_reducible repeat (first | apply Kd.R_alloc | apply Kd.R_drewN | apply Kd.R_drew)); exact HO325.out, spec_l8Next.zI78 HI0, by repeat (first | (with_reducible first | exact HB.out | apply below_alloc | apply pw_below_drewN | apply below_drew1 | refine below_set ?_ (IsS78.ge HI0.out)) | exact HB.out), zH HK⟩
   ·rw [if_neg c19] at H
    have c19b0 : (t329 == 1) = false := beq_eq_false_iff_ne.mpr c19
    have c19b1 : (t329 != 1) = true := bne_iff_ne.mpr c19
    by_cases c32 : t329 = 2
    ·rw [if_pos c32] at H
     have c32b0 : (t329 == 2) = true := beq_iff_eq.mpr c32
     have c32b1 : (t329 != 2) = false := bne_eq_false_iff_eq.mpr c32
     clear c32
     by_cases c33 : (y323.length : Int) < 6
     ·rw [if_pos c33] at H
      have c33b0 : decide ((y323.length : Int) < 6) = true := decide_eq_true c33
      have c33b1 : decide (y323.length < 6) = true := decide_eq_true (by omega)
      clear c33
      replace H := Option.bind_eq_some_iff.mp H
      obtain ⟨⟨t338, t339, t340⟩, A340, H⟩ := H
      replace H : ((spec_l1Below.f s0_0 t339 t340 4).bind fun bt341 => (if y323.length < 4398046511104 then (some ((y323 ++ [(⟨wrap64 (1 + t338), wrap64 (1 + bt341.1), (-1), 0⟩ : S47)]), bt341.2.1, bt341.2.2)) else (none))) = some (r1, r2, r3) := H
      have A34 := Aside0.mk A340
      clear A340
      replace H := Option.bind_eq_some_iff.mp H
      obtain ⟨⟨t341, t342, t343⟩, A350, H⟩ := H
      replace H : (if y323.length < 4398046511104 then (some ((y323 ++ [(⟨wrap64 (1 + t338), wrap64 (1 + t341), (-1), 0⟩ : S47)]), t342, t343)) else (none)) = some (r1, r2, r3) := H
      have A35 := Aside0.mk A350
      clear A350
      obtain ⟨c36, H⟩ := ifS H
      have LMc36 := Aside0.mk c36
      clear c36
      obtain ⟨y344, hy344⟩ : ∃ y_ : List (S47), y_ = (y323 ++ [(⟨wrap64 (1 + t338), wrap64 (1 + t341), (-1), 0⟩ : S47)]) := ⟨_, rfl⟩
      replace H : (some (y344, t342, t343)) = some (r1, r2, r3) := by first | (rw [hy344]; with_reducible exact H) | (have H2_ := (Option.bind_some _ _).symm.trans H; rw [hy344]; with_reducible exact H2_) | (have H2_ := (Option.bind_some _ _).symm.trans H; with_reducible exact H2_) | with_reducible exact H | (rw [hy344]; exact H) | exact H
      have Ny344 := Aside0.mk hy344
      clear hy344
      simp only [Option.some.injEq, Prod.mk.injEq] at H
      obtain ⟨rfl, rfl, rfl⟩ := H
      go_enter Try.func52, Try.ntmps52
      go_wp2_with (first | ((with_reducible refine gate_dst (N := 7) rfl ?_); refine Kd.R_lit k47 _ 47 ?hg (N := 7) ?hd (xs := ([] : List (S47))) (inner := []) (ok := fun _ => True) (okp := fun _ => True) ?hr ?hp (fun _ hk => hk) trivial (Below.refl _ _) (Nat.le_refl _) (by simp) ?_; (case hd => rfl); (case hg => rfl); (case hr => first | (go_simp; done) | (go_simp; rfl)); (case hp => exact (Reps.none _ _)); intro v321 w37 ho38 hb hg_ hnew_; clear hg_ hnew_; (first | rw [← Ny320.out] at ho38 | (simp only [Int.reduceToNat] at ho38; rw [← Ny320.out] at ho38)); have HO322 := Aside0.mk (Kd.R_lower ho38 (keep_size (w := w) (g := g) (row := none) (zH HK))); replace HK := Aside0.mk (KeepBut.trans (zH HK) (KeepBut.of_below hb g none) (.inl rfl)); replace HB := Aside0.mk (below_step (by repeat (first | (with_reducible first | exact HB.out | apply below_alloc | apply pw_below_drewN | apply below_drew1 | refine below_set ?_ (IsS78.ge HI0.out)) | exact HB.out)) hb); replace HI0 := Aside0.mk (IsS78.below (spec_l8Next.zI78 HI0) hb); clear hb ho38) | ((with_reducible refine gate_builtin (b := .append) (xs := #[.tmp 7, .tmp 8]) rfl ?_); at_builtin; refine Kd.R_append_rows k47 w.heap.size rfl (.tmp 7) (.tmp 8) 25 47 (.agg #[(.int .i64 0), (.int .i64 0), (.int .i64 0), (.int .i64 0)]) 32 rfl Try.underlying25 info47 rfl (by decide) (by omega) v321 y320 l1 _ _ _ (fun _ => True) (fun _ => False) rfl rfl ?aO ?aR (fun _ _ h => h) (fun _ h => h.elim) ?aF (Below.refl _ _) ?aS ?aL ?_; (case aR => exact Kd.C_foot_now HR1.out (zH HK)); (case aF => exact (fun _ _ => trivial)); (case aO => exact (zR HO322)); (case aS => exact (keep_size (w := w) (g := g) (row := none) (zH HK))); (case aL => have := LMc3.out; omega); intro v324 w39 ho hb hg hat; rw [← Ny323.out] at ho; replace HB := Aside0.mk (below_weaken (by repeat (first | (with_reducible first | exact HB.out | apply below_alloc | apply pw_below_drewN | apply below_drew1 | refine below_set ?_ (IsS78.ge HI0.out)) | exact HB.out)) HL.out hb); replace HI0 := Aside0.mk (IsS78.grown (spec_l8Next.zI78 HI0) hg (IsS78.own_ne HI0.out HO322.out (by decide))); replace HK := Aside0.mk (KeepBut.trans (zH HK) (KeepBut.of_grown hg g) (Kd.R_base2 HO322.out)); have HO325 := Aside0.mk (ho); clear HO322; clear ho hb hg hat; obtain ⟨Ao40, co40, eo40⟩ := Kd.R_slice HO325.out; subst eo40) | ((with_reducible refine gate_callee (f := 53) rfl ?_); refine goesL_ (some 13) rfl rfl Try.func53 (by kernel_rfl) rfl #[.pointer (some ⟨g, 0, none⟩), .int .i64 (y323.length : Int)] rfl zG ?_; (with_reducible refine (spec_l1Below.calls g s0_0 s0_1 s0_2 (y323.length : Int) t326 t327 t328 w0 _ ?side1 ?side2 A4.out).mono ?_); (case side1 => exact spec_l8Next.zI78 HI0); (case side2 => repeat (first | (with_reducible first | exact HB.out | apply below_alloc | apply pw_below_drewN | apply below_drew1 | refine below_set ?_ (IsS78.ge HI0.out)) | exact HB.out)); rintro e w41 ⟨rfl, hi, hb, hk⟩; refine ⟨_, rfl, ?_⟩; replace HO325 := Aside0.mk (Kd.R_mono (Kd.R_keep (IsS78.apart (show IsS78 w0 _ g s0_0 s0_1 s0_2 from spec_l8Next.zI78 HI0) (zR HO325) (by decide)) hk (fun _ h => h.2)) (fun _ h => h.1)); replace HK := Aside0.mk (KeepBut.trans (zH HK) hk (.inl rfl)); replace HB := Aside0.mk (hb); replace HI0 := Aside0.mk (hi); (try clear hb)) | ((with_reducible refine gate_callee (f := 53) rfl ?_); refine goesL_ (some 15) rfl rfl Try.func53 (by kernel_rfl) rfl #[.pointer (some ⟨g, 0, none⟩), .int .i64 6] rfl zG ?_; (with_reducible refine (spec_l1Below.calls g s0_0 t327 t328 6 t329 t330 t331 w0 _ ?side1 ?side2 A5.out).mono ?_); (case side1 => exact spec_l8Next.zI78 HI0); (case side2 => repeat (first | (with_reducible first | exact HB.out | apply below_alloc | apply pw_below_drewN | apply below_drew1 | refine below_set ?_ (IsS78.ge HI0.out)) | exact HB.out)); rintro e w42 ⟨rfl, hi, hb, hk⟩; refine ⟨_, rfl, ?_⟩; replace HO325 := Aside0.mk (Kd.R_mono (Kd.R_keep (IsS78.apart (show IsS78 w0 _ g s0_0 t327 t328 from spec_l8Next.zI78 HI0) (zR HO325) (by decide)) hk (fun _ h => h.2)) (fun _ h => h.1)); replace HK := Aside0.mk (KeepBut.trans (zH HK) hk (.inl rfl)); replace HB := Aside0.mk (hb); replace HI0 := Aside0.mk (hi); (try clear hb)) | ((with_reducible refine gate_callee (f := 53) rfl ?_); refine goesL_ (some 49) rfl rfl Try.func53 (by kernel_rfl) rfl #[.pointer (some ⟨g, 0, none⟩), .int .i64 3] rfl zG ?_; (with_reducible refine (spec_l1Below.calls g s0_0 t330 t331 3 t338 t339 t340 w0 _ ?side1 ?side2 A34.out).mono ?_); (case side1 => exact spec_l8Next.zI78 HI0); (case side2 => repeat (first | (with_reducible first | exact HB.out | apply below_alloc | apply pw_below_drewN | apply below_drew1 | refine below_set ?_ (IsS78.ge HI0.out)) | exact HB.out)); rintro e w43 ⟨rfl, hi, hb, hk⟩; refine ⟨_, rfl, ?_⟩; replace HO325 := Aside0.mk (Kd.R_mono (Kd.R_keep (IsS78.apart (show IsS78 w0 _ g s0_0 t330 t331 from spec_l8Next.zI78 HI0) (zR HO325) (by decide)) hk (fun _ h => h.2)) (fun _ h => h.1)); replace HK := Aside0.mk (KeepBut.trans (zH HK) hk (.inl rfl)); replace HB := Aside0.mk (hb); replace HI0 := Aside0.mk (hi); (try clear hb)) | ((with_reducible refine gate_callee (f := 53) rfl ?_); refine goesL_ (some 52) rfl rfl Try.func53 (by kernel_rfl) rfl #[.pointer (some ⟨g, 0, none⟩), .int .i64 4] rfl zG ?_; (with_reducible refine (spec_l1Below.calls g s0_0 t339 t340 4 t341 t342 t343 w0 _ ?side1 ?side2 A35.out).mono ?_); (case side1 => exact spec_l8Next.zI78 HI0); (case side2 => repeat (first | (with_reducible first | exact HB.out | apply below_alloc | apply pw_below_drewN | apply below_drew1 | refine below_set ?_ (IsS78.ge HI0.out)) | exact HB.out)); rintro e w44 ⟨rfl, hi, hb, hk⟩; refine ⟨_, rfl, ?_⟩; replace HO325 := Aside0.mk (Kd.R_mono (Kd.R_keep (IsS78.apart (show IsS78 w0 _ g s0_0 t339 t340 from spec_l8Next.zI78 HI0) (zR HO325) (by decide)) hk (fun _ h => h.2)) (fun _ h => h.1)); replace HK := Aside0.mk (KeepBut.trans (zH HK) hk (.inl rfl)); replace HB := Aside0.mk (hb); replace HI0 := Aside0.mk (hi); (try clear hb)) | ((with_reducible refine gate_builtin (b := .append) (xs := #[.tmp 47, .tmp 55]) rfl ?_); at_builtin; refine Kd.R_append k47 w.heap.size rfl (.tmp 47) (.tmp 55) 25 47 (.agg #[(.int .i64 0), (.int .i64 0), (.int .i64 0), (.int .i64 0)]) 32 rfl Try.underlying25 info47 rfl (by decide) (by omega) (.slice Ao40 y323.length co40) y323 (⟨wrap64 (1 + t338), wrap64 (1 + t341), (-1), 0⟩ : S47) [.int .i64 (wrap64 (1 + t338)), .int .i64 (wrap64 (1 + t341)), .int .i64 (-1), .int .i64 0] (fun _ => True) (fun _ => False) rfl rfl ?aP (fun _ hk => hk.elim) ?aF ?aO (Below.refl _ _) ?aS ?aL ?_; (case aP => exact k47_mkM _ _ _ (⟨wrap64 (1 + t338), wrap64 (1 + t341), (-1), 0⟩ : S47)); (case aF => exact (fun _ _ => trivial)); (case aO => exact (zR HO325)); (case aS => exact (keep_size (w := w) (g := g) (row := none) (zH HK))); (case aL => have := LMc36.out; omega); intro v345 w45 ho hb hg hat; rw [← Ny344.out] at ho; replace HB := Aside0.mk (below_weaken (by repeat (first | (with_reducible first | exact HB.out | apply below_alloc | apply pw_below_drewN | apply below_drew1 | refine below_set ?_ (IsS78.ge HI0.out)) | exact HB.out)) HL.out hb); replace HI0 := Aside0.mk (IsS78.grown (spec_l8Next.zI78 HI0) hg (IsS78.own_ne HI0.out HO325.out (by decide))); replace HK := Aside0.mk (KeepBut.trans (zH HK) (KeepBut.of_grown hg g) (Kd.R_base2 HO325.out)); have HO346 := Aside0.mk (ho); clear HO325; clear ho hb hg hat))
      go_ret
      exact ⟨_, zE, by (with_reducible repeat (first | apply Kd.R_alloc | apply Kd.R_drewN | apply Kd.R_drew)); exact HO346.out, spec_l8Next.zI78 HI0, by repeat (first | (with_reducible first | exact HB.out | apply below_alloc | apply pw_below_drewN | apply below_drew1 | refine below_set ?_ (IsS78.ge HI0.out)) | exact HB.out), zH HK⟩
     ·rw [if_neg c33] at H
      have c33b0 : decide ((y323.length : Int) < 6) = false := decide_eq_false c33
      have c33b1 : decide (y323.length < 6) = false := decide_eq_false (by omega)
      clear c33
      simp only [Option.some.injEq, Prod.mk.injEq] at H
      obtain ⟨rfl, rfl, rfl⟩ := H
      go_enter Try.func52, Try.ntmps52
      go_wp2_with (first | ((with_reducible refine gate_dst (N := 7) rfl ?_); refine Kd.R_lit k47 _ 47 ?hg (N := 7) ?hd (xs := ([] : List (S47))) (inner := []) (ok := fun _ => True) (okp := fun _ => True) ?hr ?hp (fun _ hk => hk) trivial (Below.refl _ _) (Nat.le_refl _) (by simp) ?_; (case hd => rfl); (case hg => rfl); (case hr => first | (go_simp; done) | (go_simp; rfl)); (case hp => exact (Reps.none _ _)); intro v321 w46 ho47 hb hg_ hnew_; clear hg_ hnew_; (first | rw [← Ny320.out] at ho47 | (simp only [Int.reduceToNat] at ho47; rw [← Ny320.out] at ho47)); have HO322 := Aside0.mk (Kd.R_lower ho47 (keep_size (w := w) (g := g) (row := none) (zH HK))); replace HK := Aside0.mk (KeepBut.trans (zH HK) (KeepBut.of_below hb g none) (.inl rfl)); replace HB := Aside0.mk (below_step (by repeat (first | (with_reducible first | exact HB.out | apply below_alloc | apply pw_below_drewN | apply below_drew1 | refine below_set ?_ (IsS78.ge HI0.out)) | exact HB.out)) hb); replace HI0 := Aside0.mk (IsS78.below (spec_l8Next.zI78 HI0) hb); clear hb ho47) | ((with_reducible refine gate_builtin (b := .append) (xs := #[.tmp 7, .tmp 8]) rfl ?_); at_builtin; refine Kd.R_append_rows k47 w.heap.size rfl (.tmp 7) (.tmp 8) 25 47 (.agg #[(.int .i64 0), (.int .i64 0), (.int .i64 0), (.int .i64 0)]) 32 rfl Try.underlying25 info47 rfl (by decide) (by omega) v321 y320 l1 _ _ _ (fun _ => True) (fun _ => False) rfl rfl ?aO ?aR (fun _ _ h => h) (fun _ h => h.elim) ?aF (Below.refl _ _) ?aS ?aL ?_; (case aR => exact Kd.C_foot_now HR1.out (zH HK)); (case aF => exact (fun _ _ => trivial)); (case aO => exact (zR HO322)); (case aS => exact (keep_size (w := w) (g := g) (row := none) (zH HK))); (case aL => have := LMc3.out; omega); intro v324 w48 ho hb hg hat; rw [← Ny323.out] at ho; replace HB := Aside0.mk (below_weaken (by repeat (first | (with_reducible first | exact HB.out | apply below_alloc | apply pw_below_drewN | apply below_drew1 | refine below_set ?_ (IsS78.ge HI0.out)) | exact HB.out)) HL.out hb); replace HI0 := Aside0.mk (IsS78.grown (spec_l8Next.zI78 HI0) hg (IsS78.own_ne HI0.out HO322.out (by decide))); replace HK := Aside0.mk (KeepBut.trans (zH HK) (KeepBut.of_grown hg g) (Kd.R_base2 HO322.out)); have HO325 := Aside0.mk (ho); clear HO322; clear ho hb hg hat; obtain ⟨Ao49, co49, eo49⟩ := Kd.R_slice HO325.out; subst eo49) | ((with_reducible refine gate_callee (f := 53) rfl ?_); refine goesL_ (some 13) rfl rfl Try.func53 (by kernel_rfl) rfl #[.pointer (some ⟨g, 0, none⟩), .int .i64 (y323.length : Int)] rfl zG ?_; (with_reducible refine (spec_l1Below.calls g s0_0 s0_1 s0_2 (y323.length : Int) t326 t327 t328 w0 _ ?side1 ?side2 A4.out).mono ?_); (case side1 => exact spec_l8Next.zI78 HI0); (case side2 => repeat (first | (with_reducible first | exact HB.out | apply below_alloc | apply pw_below_drewN | apply below_drew1 | refine below_set ?_ (IsS78.ge HI0.out)) | exact HB.out)); rintro e w50 ⟨rfl, hi, hb, hk⟩; refine ⟨_, rfl, ?_⟩; replace HO325 := Aside0.mk (Kd.R_mono (Kd.R_keep (IsS78.apart (show IsS78 w0 _ g s0_0 s0_1 s0_2 from spec_l8Next.zI78 HI0) (zR HO325) (by decide)) hk (fun _ h => h.2)) (fun _ h => h.1)); replace HK := Aside0.mk (KeepBut.trans (zH HK) hk (.inl rfl)); replace HB := Aside0.mk (hb); replace HI0 := Aside0.mk (hi); (try clear hb)) | ((with_reducible refine gate_callee (f := 53) rfl ?_); refine goesL_ (some 15) rfl rfl Try.func53 (by kernel_rfl) rfl #[.pointer (some ⟨g, 0, none⟩), .int .i64 6] rfl zG ?_; (with_reducible refine (spec_l1Below.calls g s0_0 t327 t328 6 t329 t330 t331 w0 _ ?side1 ?side2 A5.out).mono ?_); (case side1 => exact spec_l8Next.zI78 HI0); (case side2 => repeat (first | (with_reducible first | exact HB.out | apply below_alloc | apply pw_below_drewN | apply below_drew1 | refine below_set ?_ (IsS78.ge HI0.out)) | exact HB.out)); rintro e w51 ⟨rfl, hi, hb, hk⟩; refine ⟨_, rfl, ?_⟩; replace HO325 := Aside0.mk (Kd.R_mono (Kd.R_keep (IsS78.apart (show IsS78 w0 _ g s0_0 t327 t328 from spec_l8Next.zI78 HI0) (zR HO325) (by decide)) hk (fun _ h => h.2)) (fun _ h => h.1)); replace HK := Aside0.mk (KeepBut.trans (zH HK) hk (.inl rfl)); replace HB := Aside0.mk (hb); replace HI0 := Aside0.mk (hi); (try clear hb)))
      go_ret
      exact ⟨_, zE, by (with_reducible repeat (first | apply Kd.R_alloc | apply Kd.R_drewN | apply Kd.R_drew)); exact HO325.out, spec_l8Next.zI78 HI0, by repeat (first | (with_reducible first | exact HB.out | apply below_alloc | apply pw_below_drewN | apply below_drew1 | refine below_set ?_ (IsS78.ge HI0.out)) | exact HB.out), zH HK⟩
    ·rw [if_neg c32] at H
     have c32b0 : (t329 == 2) = false := beq_eq_false_iff_ne.mpr c32
     have c32b1 : (t329 != 2) = true := bne_iff_ne.mpr c32
     by_cases c52 : t329 = 3
     ·rw [if_pos c52] at H
      have c52b0 : (t329 == 3) = true := beq_iff_eq.mpr c52
      have c52b1 : (t329 != 3) = false := bne_eq_false_iff_eq.mpr c52
      clear c52
      replace H := Option.bind_eq_some_iff.mp H
      obtain ⟨⟨t347, t348, t349⟩, A530, H⟩ := H
      replace H : (if 0 ≤ t326 then (if t326 < (y323.length : Int) then (some ((y323.set (t326 : Int).toNat (⟨wrap64 (1 + t347), (rd_T47 y323 t326).f1, (rd_T47 y323 t326).f2, (rd_T47 y323 t326).f3⟩ : S47)), t348, t349)) else (none)) else (none)) = some (r1, r2, r3) := H
      have A53 := Aside0.mk A530
      clear A530
      obtain ⟨c54, H⟩ := ifS H
      have c54b0 : decide (0 ≤ t326) = true := decide_eq_true c54
      clear c54
      obtain ⟨c55, H⟩ := ifS H
      have c55b0 : decide (t326 < (y323.length : Int)) = true := decide_eq_true c55
      clear c55
      obtain ⟨y350, hy350⟩ : ∃ y_ : List (S47), y_ = (y323.set (t326 : Int).toNat (⟨wrap64 (1 + t347), (rd_T47 y323 t326).f1, (rd_T47 y323 t326).f2, (rd_T47 y323 t326).f3⟩ : S47)) := ⟨_, rfl⟩
      replace H : (some (y350, t348, t349)) = some (r1, r2, r3) := by first | (rw [hy350]; with_reducible exact H) | (have H2_ := (Option.bind_some _ _).symm.trans H; rw [hy350]; with_reducible exact H2_) | (have H2_ := (Option.bind_some _ _).symm.trans H; with_reducible exact H2_) | with_reducible exact H | (rw [hy350]; exact H) | exact H
      have Ny350 := Aside0.mk hy350
      clear hy350
      simp only [Option.some.injEq, Prod.mk.injEq] at H
      obtain ⟨rfl, rfl, rfl⟩ := H
      go_enter Try.func52, Try.ntmps52
      go_wp2_with (first | ((with_reducible refine gate_dst (N := 7) rfl ?_); refine Kd.R_lit k47 _ 47 ?hg (N := 7) ?hd (xs := ([] : List (S47))) (inner := []) (ok := fun _ => True) (okp := fun _ => True) ?hr ?hp (fun _ hk => hk) trivial (Below.refl _ _) (Nat.le_refl _) (by simp) ?_; (case hd => rfl); (case hg => rfl); (case hr => first | (go_simp; done) | (go_simp; rfl)); (case hp => exact (Reps.none _ _)); intro v321 w57 ho58 hb hg_ hnew_; clear hg_ hnew_; (first | rw [← Ny320.out] at ho58 | (simp only [Int.reduceToNat] at ho58; rw [← Ny320.out] at ho58)); have HO322 := Aside0.mk (Kd.R_lower ho58 (keep_size (w := w) (g := g) (row := none) (zH HK))); replace HK := Aside0.mk (KeepBut.trans (zH HK) (KeepBut.of_below hb g none) (.inl rfl)); replace HB := Aside0.mk (below_step (by repeat (first | (with_reducible first | exact HB.out | apply below_alloc | apply pw_below_drewN | apply below_drew1 | refine below_set ?_ (IsS78.ge HI0.out)) | exact HB.out)) hb); replace HI0 := Aside0.mk (IsS78.below (spec_l8Next.zI78 HI0) hb); clear hb ho58) | ((with_reducible refine gate_builtin (b := .append) (xs := #[.tmp 7, .tmp 8]) rfl ?_); at_builtin; refine Kd.R_append_rows k47 w.heap.size rfl (.tmp 7) (.tmp 8) 25 47 (.agg #[(.int .i64 0), (.int .i64 0), (.int .i64 0), (.int .i64 0)]) 32 rfl Try.underlying25 info47 rfl (by decide) (by omega) v321 y320 l1 _ _ _ (fun _ => True) (fun _ => False) rfl rfl ?aO ?aR (fun _ _ h => h) (fun _ h => h.elim) ?aF (Below.refl _ _) ?aS ?aL ?_; (case aR => exact Kd.C_foot_now HR1.out (zH HK)); (case aF => exact (fun _ _ => trivial)); (case aO => exact (zR HO322)); (case aS => exact (keep_size (w := w) (g := g) (row := none) (zH HK))); (case aL => have := LMc3.out; omega); intro v324 w59 ho hb hg hat; rw [← Ny323.out] at ho; replace HB := Aside0.mk (below_weaken (by repeat (first | (with_reducible first | exact HB.out | apply below_alloc | apply pw_below_drewN | apply below_drew1 | refine below_set ?_ (IsS78.ge HI0.out)) | exact HB.out)) HL.out hb); replace HI0 := Aside0.mk (IsS78.grown (spec_l8Next.zI78 HI0) hg (IsS78.own_ne HI0.out HO322.out (by decide))); replace HK := Aside0.mk (KeepBut.trans (zH HK) (KeepBut.of_grown hg g) (Kd.R_base2 HO322.out)); have HO325 := Aside0.mk (ho); clear HO322; clear ho hb hg hat; obtain ⟨Ao60, co60, eo60⟩ := Kd.R_slice HO325.out; subst eo60) | ((with_reducible refine gate_callee (f := 53) rfl ?_); refine goesL_ (some 13) rfl rfl Try.func53 (by kernel_rfl) rfl #[.pointer (some ⟨g, 0, none⟩), .int .i64 (y323.length : Int)] rfl zG ?_; (with_reducible refine (spec_l1Below.calls g s0_0 s0_1 s0_2 (y323.length : Int) t326 t327 t328 w0 _ ?side1 ?side2 A4.out).mono ?_); (case side1 => exact spec_l8Next.zI78 HI0); (case side2 => repeat (first | (with_reducible first | exact HB.out | apply below_alloc | apply pw_below_drewN | apply below_drew1 | refine below_set ?_ (IsS78.ge HI0.out)) | exact HB.out)); rintro e w61 ⟨rfl, hi, hb, hk⟩; refine ⟨_, rfl, ?_⟩; replace HO325 := Aside0.mk (Kd.R_mono (Kd.R_keep (IsS78.apart (show IsS78 w0 _ g s0_0 s0_1 s0_2 from spec_l8Next.zI78 HI0) (zR HO325) (by decide)) hk (fun _ h => h.2)) (fun _ h => h.1)); replace HK := Aside0.mk (KeepBut.trans (zH HK) hk (.inl rfl)); replace HB := Aside0.mk (hb); replace HI0 := Aside0.mk (hi); (try clear hb)) | ((with_reducible refine gate_callee (f := 53) rfl ?_); refine goesL_ (some 15) rfl rfl Try.func53 (by kernel_rfl) rfl #[.pointer (some ⟨g, 0, none⟩), .int .i64 6] rfl zG ?_; (with_reducible refine (spec_l1Below.calls g s0_0 t327 t328 6 t329 t330 t331 w0 _ ?side1 ?side2 A5.out).mono ?_); (case side1 => exact spec_l8Next.zI78 HI0); (case side2 => repeat (first | (with_reducible first | exact HB.out | apply below_alloc | apply pw_below_drewN | apply below_drew1 | refine below_set ?_ (IsS78.ge HI0.out)) | exact HB.out)); rintro e w62 ⟨rfl, hi, hb, hk⟩; refine ⟨_, rfl, ?_⟩; replace HO325 := Aside0.mk (Kd.R_mono (Kd.R_keep (IsS78.apart (show IsS78 w0 _ g s0_0 t327 t328 from spec_l8Next.zI78 HI0) (zR HO325) (by decide)) hk (fun _ h => h.2)) (fun _ h => h.1)); replace HK := Aside0.mk (KeepBut.trans (zH HK) hk (.inl rfl)); replace HB := Aside0.mk (hb); replace HI0 := Aside0.mk (hi); (try clear hb)) | ((with_reducible refine gate_callee (f := 53) rfl ?_); refine goesL_ (some 62) rfl rfl Try.func53 (by kernel_rfl) rfl #[.pointer (some ⟨g, 0, none⟩), .int .i64 3] rfl zG ?_; (with_reducible refine (spec_l1Below.calls g s0_0 t330 t331 3 t347 t348 t349 w0 _ ?side1 ?side2 A53.out).mono ?_); (case side1 => exact spec_l8Next.zI78 HI0); (case side2 => repeat (first | (with_reducible first | exact HB.out | apply below_alloc | apply pw_below_drewN | apply below_drew1 | refine below_set ?_ (IsS78.ge HI0.out)) | exact HB.out)); rintro e w63 ⟨rfl, hi, hb, hk⟩; refine ⟨_, rfl, ?_⟩; replace HO325 := Aside0.mk (Kd.R_mono (Kd.R_keep (IsS78.apart (show IsS78 w0 _ g s0_0 t330 t331 from spec_l8Next.zI78 HI0) (zR HO325) (by decide)) hk (fun _ h => h.2)) (fun _ h => h.1)); replace HK := Aside0.mk (KeepBut.trans (zH HK) hk (.inl rfl)); replace HB := Aside0.mk (hb); replace HI0 := Aside0.mk (hi); (try clear hb); have p56 : 0 ≤ (t326 : Int) := zD; have q56 : (t326 : Int) < ((y323.length : Int) : Int) := zD; obtain ⟨go56, co56, eo56, gb56, gl56, cl56, HG56⟩ := Kd.R_form HO325.out (by omega); (first | cases eo56 | (injection eo56 with ea_ en_ ec_; (first | subst ea_ | (injection ea_ with ea_; subst ea_)); subst ec_; clear en_)); have GB56 := Aside0.mk gb56; have GG56 := Aside0.mk HG56; clear gb56 gl56 HG56; obtain ⟨ce56, hcl56, hM56, hcc56, hfr56⟩ := Kd.R_elem HO325.out z47 (t326 : Int) p56 q56; obtain rfl := k47_openM hM56; have hx56_0 : w63.cell? ⟨go56, (t326 : Int).toNat * 4, none⟩ = some (.int .i64 ((rd_T47 y323 t326).f0)) := hcc56 0 _ rfl; have hx56_1 : w63.cell? ⟨go56, (t326 : Int).toNat * 4 + 1, none⟩ = some (.int .i64 ((rd_T47 y323 t326).f1)) := hcc56 1 _ rfl; have hx56_2 : w63.cell? ⟨go56, (t326 : Int).toNat * 4 + 2, none⟩ = some (.int .i64 ((rd_T47 y323 t326).f2)) := hcc56 2 _ rfl; have hx56_3 : w63.cell? ⟨go56, (t326 : Int).toNat * 4 + 3, none⟩ = some (.int .i64 ((rd_T47 y323 t326).f3)) := hcc56 3 _ rfl; have hf56_0 : w63.frozen? ⟨go56, (t326 : Int).toNat * 4, none⟩ = false := hfr56 0; have hf56_1 : w63.frozen? ⟨go56, (t326 : Int).toNat * 4 + 1, none⟩ = false := hfr56 1; have hf56_2 : w63.frozen? ⟨go56, (t326 : Int).toNat * 4 + 2, none⟩ = false := hfr56 2; have hf56_3 : w63.frozen? ⟨go56, (t326 : Int).toNat * 4 + 3, none⟩ = false := hfr56 3; clear hcl56 hcc56 hfr56 hM56; replace p56 := eq_true p56; replace q56 := eq_true q56; have HX64 := Aside0.mk (show Kd.R k47 47 w63 w.heap.size (fun _ => True) (.slice (some ⟨go56, 0, none⟩) y323.length co60) y323 from (zR HO325)); obtain ⟨ce64, hcl64, hM64, hcc64, hfr64⟩ := Kd.R_elem HX64.out z47 (t326 : Int) (zD) (by have h_ : (t326 : Int) < ((y323.length : Int) : Int) := zD; first | exact h_ | (have e_ := (Kd.R_reads' HO325.out).1; omega) | simpa using h_); obtain rfl := k47_openM hM64; have HP64 := Kd.R_seg HX64.out (t326 : Int) (zD) (by have h_ : (t326 : Int) < ((y323.length : Int) : Int) := zD; first | exact h_ | (have e_ := (Kd.R_reads' HO325.out).1; omega) | simpa using h_) (seg := [.int .i64 (wrap64 (1 + t347))]) (j := 0) hcl64 hcc64 (show 1 ≤ 4 from by decide) (x' := (⟨wrap64 (1 + t347), (rd_T47 y323 t326).f1, (rd_T47 y323 t326).f2, (rd_T47 y323 t326).f3⟩ : S47)) (k47_mkM _ _ _ (⟨wrap64 (1 + t347), (rd_T47 y323 t326).f1, (rd_T47 y323 t326).f2, (rd_T47 y323 t326).f3⟩ : S47) ) (fun _ hk => hk); have hx64_0 := hcc64 0 _ rfl; (try simp only [show (k47).sz = 4 from rfl, Nat.mul_one, Nat.add_zero] at hx64_0); have hf64_0 := hfr64 0; (try simp only [show (k47).sz = 4 from rfl, Nat.mul_one, Nat.add_zero] at hf64_0); clear hcl64 hcc64 hfr64 hM64) | ((with_reducible refine gate_store (t := 3) (p := 65) rfl ?_); refine store_event (t := 3) (p := 65) (v := ?vo_w65) (w1 := (w63.setCell ⟨go56, (t326 : Int).toNat * 4, none⟩ (.int .i64 (wrap64 (1 + t347))))) ?hg ?ho ?hn ?hr ?_; (case ho => rfl); (case hg => rfl); (case hn => rfl); (case hr => first | (go_simp; done) | (go_simp; rfl)); intro w65 hw; have hg : w63.grownBy w65 (some go56) := (by rw [hw]; exact HP64.2); have hp_ : Kd.R k47 47 w65 w.heap.size (fun _ => True) (.slice (some ⟨go56, 0, none⟩) y323.length co60) y350 := (by rw [hw, Ny350.out]; exact HP64.1); clear HP64; replace HI0 := Aside0.mk (IsS78.grown (spec_l8Next.zI78 HI0) hg (IsS78.own_ne HI0.out HO325.out (by decide))); replace HB := Aside0.mk ((by rw [hw]; exact below_set (HB.out) (Nat.le_trans HL.out GB56.out) : Below w0.heap.size w0 w65)); replace HK := Aside0.mk (KeepBut.trans (zH HK) (KeepBut.of_grown hg g) (Kd.R_base2 HO325.out)); replace HO325 := Aside0.mk (hp_); clear hg hw hp_))
      go_ret
      exact ⟨_, zE, by (with_reducible repeat (first | apply Kd.R_alloc | apply Kd.R_drewN | apply Kd.R_drew)); exact HO325.out, spec_l8Next.zI78 HI0, by repeat (first | (with_reducible first | exact HB.out | apply below_alloc | apply pw_below_drewN | apply below_drew1 | refine below_set ?_ (IsS78.ge HI0.out)) | exact HB.out), zH HK⟩
     ·rw [if_neg c52] at H
      have c52b0 : (t329 == 3) = false := beq_eq_false_iff_ne.mpr c52
      have c52b1 : (t329 != 3) = true := bne_iff_ne.mpr c52
      by_cases c66 : t329 = 4
      ·rw [if_pos c66] at H
       have c66b0 : (t329 == 4) = true := beq_iff_eq.mpr c66
       have c66b1 : (t329 != 4) = false := bne_eq_false_iff_eq.mpr c66
       clear c66
       obtain ⟨ji67, hji67⟩ : ∃ j_ : Int, (wrap64 (t326 + 1)) = j_ := ⟨_, rfl⟩
       replace H : (if 0 ≤ (ji67) then (if (ji67) ≤ (y323.length : Int) then (some ((y323.take ((ji67) : Int).toNat), t330, t331)) else (none)) else (none)) = some (r1, r2, r3) := by first | (rw [hji67] at H; exact H) | (simp only [hji67] at H ⊢; exact H)
       (try rw [hji67] at A4)
       (try rw [hji67] at A5)
       have hji67w : (IntKind.i64.wrap (t326 + 1)) = ji67 := (i64_w _).trans hji67
       obtain ⟨c68, H⟩ := ifS H
       have c68b0 := eq_true c68
       have c68b1 : decide (0 ≤ (ji67)) = true := decide_eq_true c68
       clear c68
       obtain ⟨c69, H⟩ := ifS H
       have c69b0 := eq_true c69
       have c69b1 : decide ((ji67) ≤ (y323.length : Int)) = true := decide_eq_true c69
       clear c69
       obtain ⟨y351, hy351⟩ : ∃ y_ : List (S47), y_ = (y323.take ((ji67) : Int).toNat) := ⟨_, rfl⟩
       replace H : (some (y351, t330, t331)) = some (r1, r2, r3) := by first | (rw [hy351]; with_reducible exact H) | (have H2_ := (Option.bind_some _ _).symm.trans H; rw [hy351]; with_reducible exact H2_) | (have H2_ := (Option.bind_some _ _).symm.trans H; with_reducible exact H2_) | with_reducible exact H | (rw [hy351]; exact H) | exact H
       have Ny351 := Aside0.mk hy351
       clear hy351
       simp only [Option.some.injEq, Prod.mk.injEq] at H
       obtain ⟨rfl, rfl, rfl⟩ := H
       go_enter Try.func52, Try.ntmps52
       go_wp2_with (first | ((with_reducible refine gate_dst (N := 7) rfl ?_); refine Kd.R_lit k47 _ 47 ?hg (N := 7) ?hd (xs := ([] : List (S47))) (inner := []) (ok := fun _ => True) (okp := fun _ => True) ?hr ?hp (fun _ hk => hk) trivial (Below.refl _ _) (Nat.le_refl _) (by simp) ?_; (case hd => rfl); (case hg => rfl); (case hr => first | (go_simp; done) | (go_simp; rfl)); (case hp => exact (Reps.none _ _)); intro v321 w70 ho71 hb hg_ hnew_; clear hg_ hnew_; (first | rw [← Ny320.out] at ho71 | (simp only [Int.reduceToNat] at ho71; rw [← Ny320.out] at ho71)); have HO322 := Aside0.mk (Kd.R_lower ho71 (keep_size (w := w) (g := g) (row := none) (zH HK))); replace HK := Aside0.mk (KeepBut.trans (zH HK) (KeepBut.of_below hb g none) (.inl rfl)); replace HB := Aside0.mk (below_step (by repeat (first | (with_reducible first | exact HB.out | apply below_alloc | apply pw_below_drewN | apply below_drew1 | refine below_set ?_ (IsS78.ge HI0.out)) | exact HB.out)) hb); replace HI0 := Aside0.mk (IsS78.below (spec_l8Next.zI78 HI0) hb); clear hb ho71) | ((with_reducible refine gate_builtin (b := .append) (xs := #[.tmp 7, .tmp 8]) rfl ?_); at_builtin; refine Kd.R_append_rows k47 w.heap.size rfl (.tmp 7) (.tmp 8) 25 47 (.agg #[(.int .i64 0), (.int .i64 0), (.int .i64 0), (.int .i64 0)]) 32 rfl Try.underlying25 info47 rfl (by decide) (by omega) v321 y320 l1 _ _ _ (fun _ => True) (fun _ => False) rfl rfl ?aO ?aR (fun _ _ h => h) (fun _ h => h.elim) ?aF (Below.refl _ _) ?aS ?aL ?_; (case aR => exact Kd.C_foot_now HR1.out (zH HK)); (case aF => exact (fun _ _ => trivial)); (case aO => exact (zR HO322)); (case aS => exact (keep_size (w := w) (g := g) (row := none) (zH HK))); (case aL => have := LMc3.out; omega); intro v324 w72 ho hb hg hat; rw [← Ny323.out] at ho; replace HB := Aside0.mk (below_weaken (by repeat (first | (with_reducible first | exact HB.out | apply below_alloc | apply pw_below_drewN | apply below_drew1 | refine below_set ?_ (IsS78.ge HI0.out)) | exact HB.out)) HL.out hb); replace HI0 := Aside0.mk (IsS78.grown (spec_l8Next.zI78 HI0) hg (IsS78.own_ne HI0.out HO322.out (by decide))); replace HK := Aside0.mk (KeepBut.trans (zH HK) (KeepBut.of_grown hg g) (Kd.R_base2 HO322.out)); have HO325 := Aside0.mk (ho); clear HO322; clear ho hb hg hat; obtain ⟨Ao73, co73, eo73⟩ := Kd.R_slice HO325.out; subst eo73) | ((with_reducible refine gate_callee (f := 53) rfl ?_); refine goesL_ (some 13) rfl rfl Try.func53 (by kernel_rfl) rfl #[.pointer (some ⟨g, 0, none⟩), .int .i64 (y323.length : Int)] rfl zG ?_; (with_reducible refine (spec_l1Below.calls g s0_0 s0_1 s0_2 (y323.length : Int) t326 t327 t328 w0 _ ?side1 ?side2 A4.out).mono ?_); (case side1 => exact spec_l8Next.zI78 HI0); (case side2 => repeat (first | (with_reducible first | exact HB.out | apply below_alloc | apply pw_below_drewN | apply below_drew1 | refine below_set ?_ (IsS78.ge HI0.out)) | exact HB.out)); rintro e w74 ⟨rfl, hi, hb, hk⟩; refine ⟨_, rfl, ?_⟩; replace HO325 := Aside0.mk (Kd.R_mono (Kd.R_keep (IsS78.apart (show IsS78 w0 _ g s0_0 s0_1 s0_2 from spec_l8Next.zI78 HI0) (zR HO325) (by decide)) hk (fun _ h => h.2)) (fun _ h => h.1)); replace HK := Aside0.mk (KeepBut.trans (zH HK) hk (.inl rfl)); replace HB := Aside0.mk (hb); replace HI0 := Aside0.mk (hi); (try clear hb)) | ((with_reducible refine gate_callee (f := 53) rfl ?_); refine goesL_ (some 15) rfl rfl Try.func53 (by kernel_rfl) rfl #[.pointer (some ⟨g, 0, none⟩), .int .i64 6] rfl zG ?_; (with_reducible refine (spec_l1Below.calls g s0_0 t327 t328 6 t329 t330 t331 w0 _ ?side1 ?side2 A5.out).mono ?_); (case side1 => exact spec_l8Next.zI78 HI0); (case side2 => repeat (first | (with_reducible first | exact HB.out | apply below_alloc | apply pw_below_drewN | apply below_drew1 | refine below_set ?_ (IsS78.ge HI0.out)) | exact HB.out)); rintro e w75 ⟨rfl, hi, hb, hk⟩; refine ⟨_, rfl, ?_⟩; replace HO325 := Aside0.mk (Kd.R_mono (Kd.R_keep (IsS78.apart (show IsS78 w0 _ g s0_0 t327 t328 from spec_l8Next.zI78 HI0) (zR HO325) (by decide)) hk (fun _ h => h.2)) (fun _ h => h.1)); replace HK := Aside0.mk (KeepBut.trans (zH HK) hk (.inl rfl)); replace HB := Aside0.mk (hb); replace HI0 := Aside0.mk (hi); (try clear hb); have q76 : ((ji67) : Int) ≤ ((y323.length : Int) : Int) := zD; obtain ⟨i076, hi076, _, hsz76, _⟩ := info_parts info47; have hcut76 := cut_to (P := Try.prog) 25 47 .i64 Try.underlying25 hi076 Ao73 y323.length co73 (ji67) (zD) q76 (Kd.R_reads' HO325.out).2.1; have hr76 := Kd.R_take (m := ((ji67) : Int).toNat) HO325.out (by omega); have hy76 : y351.length = ((ji67) : Int).toNat := (by rw [Ny351.out, List.length_take]; omega); rw [← Ny351.out] at hr76; rw [← hy76] at hr76 hcut76; clear hy76 hi076 hsz76 HO325; have HO353 := Aside0.mk hr76; clear hr76; replace q76 := eq_true q76))
       go_ret
       exact ⟨_, by first | rfl | (simp [errW_none, errW_some] <;> rfl) | (simp only [← hji67]; first | rfl | (simp [errW_none, errW_some] <;> rfl)) | (simp [*, errW_none, errW_some] <;> rfl), by (with_reducible repeat (first | apply Kd.R_alloc | apply Kd.R_drewN | apply Kd.R_drew)); exact HO353.out, spec_l8Next.zI78 HI0, by repeat (first | (with_reducible first | exact HB.out | apply below_alloc | apply pw_below_drewN | apply below_drew1 | refine below_set ?_ (IsS78.ge HI0.out)) | exact HB.out), zH HK⟩
      ·rw [if_neg c66] at H
       have c66b0 : (t329 == 4) = false := beq_eq_false_iff_ne.mpr c66
       have c66b1 : (t329 != 4) = true := bne_iff_ne.mpr c66
       simp only [Option.some.injEq, Prod.mk.injEq] at H
       obtain ⟨rfl, rfl, rfl⟩ := H
       go_enter Try.func52, Try.ntmps52
       go_wp2_with (first | ((with_reducible refine gate_dst (N := 7) rfl ?_); refine Kd.R_lit k47 _ 47 ?hg (N := 7) ?hd (xs := ([] : List (S47))) (inner := []) (ok := fun _ => True) (okp := fun _ => True) ?hr ?hp (fun _ hk => hk) trivial (Below.refl _ _) (Nat.le_refl _) (by simp) ?_; (case hd => rfl); (case hg => rfl); (case hr => first | (go_simp; done) | (go_simp; rfl)); (case hp => exact (Reps.none _ _)); intro v321 w77 ho78 hb hg_ hnew_; clear hg_ hnew_; (first | rw [← Ny320.out] at ho78 | (simp only [Int.reduceToNat] at ho78; rw [← Ny320.out] at ho78)); have HO322 := Aside0.mk (Kd.R_lower ho78 (keep_size (w := w) (g := g) (row := none) (zH HK))); replace HK := Aside0.mk (KeepBut.trans (zH HK) (KeepBut.of_below hb g none) (.inl rfl)); replace HB := Aside0.mk (below_step (by repeat (first | (with_reducible first | exact HB.out | apply below_alloc | apply pw_below_drewN | apply below_drew1 | refine below_set ?_ (IsS78.ge HI0.out)) | exact HB.out)) hb); replace HI0 := Aside0.mk (IsS78.below (spec_l8Next.zI78 HI0) hb); clear hb ho78) | ((with_reducible refine gate_builtin (b := .append) (xs := #[.tmp 7, .tmp 8]) rfl ?_); at_builtin; refine Kd.R_append_rows k47 w.heap.size rfl (.tmp 7) (.tmp 8) 25 47 (.agg #[(.int .i64 0), (.int .i64 0), (.int .i64 0), (.int .i64 0)]) 32 rfl Try.underlying25 info47 rfl (by decide) (by omega) v321 y320 l1 _ _ _ (fun _ => True) (fun _ => False) rfl rfl ?aO ?aR (fun _ _ h => h) (fun _ h => h.elim) ?aF (Below.refl _ _) ?aS ?aL ?_; (case aR => exact Kd.C_foot_now HR1.out (zH HK)); (case aF => exact (fun _ _ => trivial)); (case aO => exact (zR HO322)); (case aS => exact (keep_size (w := w) (g := g) (row := none) (zH HK))); (case aL => have := LMc3.out; omega); intro v324 w79 ho hb hg hat; rw [← Ny323.out] at ho; replace HB := Aside0.mk (below_weaken (by repeat (first | (with_reducible first | exact HB.out | apply below_alloc | apply pw_below_drewN | apply below_drew1 | refine below_set ?_ (IsS78.ge HI0.out)) | exact HB.out)) HL.out hb); replace HI0 := Aside0.mk (IsS78.grown (spec_l8Next.zI78 HI0) hg (IsS78.own_ne HI0.out HO322.out (by decide))); replace HK := Aside0.mk (KeepBut.trans (zH HK) (KeepBut.of_grown hg g) (Kd.R_base2 HO322.out)); have HO325 := Aside0.mk (ho); clear HO322; clear ho hb hg hat; obtain ⟨Ao80, co80, eo80⟩ := Kd.R_slice HO325.out; subst eo80) | ((with_reducible refine gate_callee (f := 53) rfl ?_); refine goesL_ (some 13) rfl rfl Try.func53 (by kernel_rfl) rfl #[.pointer (some ⟨g, 0, none⟩), .int .i64 (y323.length : Int)] rfl zG ?_; (with_reducible refine (spec_l1Below.calls g s0_0 s0_1 s0_2 (y323.length : Int) t326 t327 t328 w0 _ ?side1 ?side2 A4.out).mono ?_); (case side1 => exact spec_l8Next.zI78 HI0); (case side2 => repeat (first | (with_reducible first | exact HB.out | apply below_alloc | apply pw_below_drewN | apply below_drew1 | refine below_set ?_ (IsS78.ge HI0.out)) | exact HB.out)); rintro e w81 ⟨rfl, hi, hb, hk⟩; refine ⟨_, rfl, ?_⟩; replace HO325 := Aside0.mk (Kd.R_mono (Kd.R_keep (IsS78.apart (show IsS78 w0 _ g s0_0 s0_1 s0_2 from spec_l8Next.zI78 HI0) (zR HO325) (by decide)) hk (fun _ h => h.2)) (fun _ h => h.1)); replace HK := Aside0.mk (KeepBut.trans (zH HK) hk (.inl rfl)); replace HB := Aside0.mk (hb); replace HI0 := Aside0.mk (hi); (try clear hb)) | ((with_reducible refine gate_callee (f := 53) rfl ?_); refine goesL_ (some 15) rfl rfl Try.func53 (by kernel_rfl) rfl #[.pointer (some ⟨g, 0, none⟩), .int .i64 6] rfl zG ?_; (with_reducible refine (spec_l1Below.calls g s0_0 t327 t328 6 t329 t330 t331 w0 _ ?side1 ?side2 A5.out).mono ?_); (case side1 => exact spec_l8Next.zI78 HI0); (case side2 => repeat (first | (with_reducible first | exact HB.out | apply below_alloc | apply pw_below_drewN | apply below_drew1 | refine below_set ?_ (IsS78.ge HI0.out)) | exact HB.out)); rintro e w82 ⟨rfl, hi, hb, hk⟩; refine ⟨_, rfl, ?_⟩; replace HO325 := Aside0.mk (Kd.R_mono (Kd.R_keep (IsS78.apart (show IsS78 w0 _ g s0_0 t327 t328 from spec_l8Next.zI78 HI0) (zR HO325) (by decide)) hk (fun _ h => h.2)) (fun _ h => h.1)); replace HK := Aside0.mk (KeepBut.trans (zH HK) hk (.inl rfl)); replace HB := Aside0.mk (hb); replace HI0 := Aside0.mk (hi); (try clear hb)))
       go_ret
       exact ⟨_, zE, by (with_reducible repeat (first | apply Kd.R_alloc | apply Kd.R_drewN | apply Kd.R_drew)); exact HO325.out, spec_l8Next.zI78 HI0, by repeat (first | (with_reducible first | exact HB.out | apply below_alloc | apply pw_below_drewN | apply below_drew1 | refine below_set ?_ (IsS78.ge HI0.out)) | exact HB.out), zH HK⟩
 ·rw [if_neg c3] at H
  exact absurd H (by simp)

/-! ### spec_l1Int: function 68 -/
def spec_l1Int.f (s0_0 : List Int) (s0_1 : Int) (s0_2 : Int) (l1 : List Int) : Option (Int × Int × Int) := (spec_l1Below.f s0_0 s0_1 s0_2 (l1.length : Int)).bind fun bt354 => (if 0 ≤ bt354.1 then (if bt354.1 < (l1.length : Int) then (some (rd l1 bt354.1, bt354.2.1, bt354.2.2)) else (none)) else (none))
set_option maxHeartbeats 8000000 in
set_option maxRecDepth 100000 in
theorem spec_l1Int.calls (g : Nat) (s0_0 : List Int) (s0_1 : Int) (s0_2 : Int) (A1 : Option Addr) (c1 : Nat) (l1 : List Int) (r1 : Int) (r2 : Int) (r3 : Int) (w0 w : World) (hI : IsS78 w0 w g s0_0 s0_1 s0_2) (hB : Below w0.heap.size w0 w) (hr1 : Kd.C (Kd.int .i64) w A1 l1.length l1) (hc1 : l1.length ≤ c1) (hf1 : ∀ ad, A1 = some ad → 0 < l1.length → ad.block ≠ g) (h : spec_l1Int.f s0_0 s0_1 s0_2 l1 = some (r1, r2, r3)) :
  Calls Try.prog 68 #[.pointer (some ⟨g, 0, none⟩), .slice A1 l1.length c1] w fun e w' => e = .returned (.int .i64 r1) ∧ IsS78 w0 w' g s0_0 r2 r3 ∧ Below w0.heap.size w0 w' ∧ KeepBut w w' g none := by
 have HR1 := Aside0.mk hr1
 have HC1 := Aside0.mk hc1
 clear hr1 hc1
 have HI0 := Aside0.mk hI
 have HK := Aside0.mk (KeepBut.refl w g none)
 have HL := Aside0.mk hB.size
 clear hI
 have HW0 := Aside0.mk hB.size
 have HB := Aside0.mk hB
 clear hB
 have H : ((spec_l1Below.f s0_0 s0_1 s0_2 (l1.length : Int)).bind fun bt354 => (if 0 ≤ bt354.1 then (if bt354.1 < (l1.length : Int) then (some (rd l1 bt354.1, bt354.2.1, bt354.2.2)) else (none)) else (none))) = some (r1, r2, r3) := h
 clear h
 replace H := Option.bind_eq_some_iff.mp H
 obtain ⟨⟨t354, t355, t356⟩, A30, H⟩ := H
 replace H : (if 0 ≤ t354 then (if t354 < (l1.length : Int) then (some (rd l1 t354, t355, t356)) else (none)) else (none)) = some (r1, r2, r3) := H
 have A3 := Aside0.mk A30
 clear A30
 by_cases c4 : 0 ≤ t354
 ·rw [if_pos c4] at H
  have c4b0 : decide (0 ≤ t354) = true := decide_eq_true c4
  clear c4
  obtain ⟨c5, H⟩ := ifS H
  have c5b0 : decide (t354 < (l1.length : Int)) = true := decide_eq_true c5
  clear c5
  simp only [Option.some.injEq, Prod.mk.injEq] at H
  obtain ⟨rfl, rfl, rfl⟩ := H
  go_enter Try.func68, Try.ntmps68
  go_wp2_with (first | ((with_reducible refine gate_callee (f := 53) rfl ?_); refine goesL_ (some 9) rfl rfl Try.func53 (by kernel_rfl) rfl #[.pointer (some ⟨g, 0, none⟩), .int .i64 (l1.length : Int)] rfl zG ?_; (with_reducible refine (spec_l1Below.calls g s0_0 s0_1 s0_2 (l1.length : Int) t354 t355 t356 w0 _ ?side1 ?side2 A3.out).mono ?_); (case side1 => repeat (first | (with_reducible first | exact HI0.out | apply IsS78.alloc | apply IsS78.drewN | apply IsS78.drew | apply IsS78.set_1 | apply IsS78.set_2) | exact HI0.out)); (case side2 => repeat (first | (with_reducible first | exact HB.out | apply below_alloc | apply pw_below_drewN | apply below_drew1 | refine below_set ?_ (IsS78.ge HI0.out)) | exact HB.out)); rintro e w6 ⟨rfl, hi, hb, hk⟩; refine ⟨_, rfl, ?_⟩; replace HK := Aside0.mk (KeepBut.trans (zH HK) hk (.inl rfl)); replace HB := Aside0.mk (hb); replace HI0 := Aside0.mk (hi); (try clear hb); have p357 : 0 ≤ (t354 : Int) := zD; have q357 : t354 < (l1.length : Int) := zD; obtain ⟨ad357, e357, hx357_0⟩ := Kd.at_int HR1.out t354 p357 q357; cases e357; replace hx357_0 := keep_cell HK.out hx357_0 (by first | (rw [add_block]; exact hf1 _ rfl (by omega)) | exact hf1 _ rfl (by omega) | exact hf1 ad357 rfl (by omega)); replace p357 := eq_true p357; replace q357 := eq_true q357))
  go_ret
  exact ⟨zE, by repeat (first | (with_reducible first | exact HI0.out | apply IsS78.alloc | apply IsS78.drewN | apply IsS78.drew | apply IsS78.set_1 | apply IsS78.set_2) | exact HI0.out), by repeat (first | (with_reducible first | exact HB.out | apply below_alloc | apply pw_below_drewN | apply below_drew1 | refine below_set ?_ (IsS78.ge HI0.out)) | exact HB.out), zH HK⟩
 ·rw [if_neg c4] at H
  exact absurd H (by simp)

end Go.Proofs.Yticpmgofegaaeaa.PFnDiffers
