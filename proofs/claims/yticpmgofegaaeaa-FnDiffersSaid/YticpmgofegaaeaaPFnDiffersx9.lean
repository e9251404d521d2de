-- WRITTEN by pp.py, this session's own wrapper around the print; not trusted: Lean checks it
import Derived.Test.YticpmgofegaaeaaPFnDiffersx0
import Derived.Test.YticpmgofegaaeaaPFnDiffersx1
import Derived.Test.YticpmgofegaaeaaPFnDiffersx8
namespace Go.Proofs.Yticpmgofegaaeaa.PFnDiffers
open Go.RowKit Go.Proofs.Yticpmgofegaaeaa.Hw Go.Proofs.YticpmgofegaaeaaW.PrintWords Go.Proofs.YticpmgofegaaeaaW.PrintLast Go.Proofs.YticpmgofegaaeaaW.PrintMore
attribute [local go_sem] max2_int min2_int max_two min_two max_three min_three max_four min_four   -- for this text's walks alone
set_option linter.unusedVariables false
set_option linter.unusedSimpArgs false
set_option linter.unusedSectionVars false

attribute [local go_sem high] eqA47
/-! ### spec_l4Any: function 54 -/
def spec_l4Any.l0 : Nat → List (S47) → List Int → Int → Int → Option ((List (S47)) × Int × Int)
 | 0, _, _, _, _ => none
 | k + 1, x3, x1000, x1001, x1002 => if (x3.length : Int) < 7 then (if 0 < (x3.length : Int) then (if x3.length < 4398046511104 then (spec_l4Any.l0 k (x3 ++ [(⟨(rd_T47 x3 0).f0, (rd_T47 x3 0).f1, (rd_T47 x3 0).f2, (rd_T47 x3 0).f3⟩ : S47)]) x1000 x1001 x1002) else (none)) else (none)) else (some (x3, x1001, x1002))
def spec_l4Any.f (k : Nat) (s0_0 : List Int) (s0_1 : Int) (s0_2 : Int) : Option ((List (S47)) × Int × Int) := (spec_l4Draw.f k s0_0 s0_1 s0_2).bind fun bt358 => ((spec_l1Below.f s0_0 bt358.2.1 bt358.2.2 (bt358.1.length : Int)).bind fun bt363 => ((spec_l1Below.f s0_0 bt363.2.1 bt363.2.2 12).bind fun bt366 => (if bt366.1 = 0 then ((spec_l1Int.f s0_0 bt366.2.1 bt366.2.2 (([0, 4, 1] : List Int))).bind fun bt372 => (if 0 ≤ bt363.1 then (if bt363.1 < (bt358.1.length : Int) then (some ((bt358.1.set (bt363.1 : Int).toNat (⟨bt372.1, (rd_T47 bt358.1 bt363.1).f1, (rd_T47 bt358.1 bt363.1).f2, (rd_T47 bt358.1 bt363.1).f3⟩ : S47)), bt372.2.1, bt372.2.2)) else (none)) else (none))) else (if bt366.1 = 1 then ((spec_l1Int.f s0_0 bt366.2.1 bt366.2.2 (([0, 5, 6, 99, 100, 9223372036854775807] : List Int))).bind fun bt379 => (if 0 ≤ bt363.1 then (if bt363.1 < (bt358.1.length : Int) then (some ((bt358.1.set (bt363.1 : Int).toNat (⟨(rd_T47 bt358.1 bt363.1).f0, bt379.1, (rd_T47 bt358.1 bt363.1).f2, (rd_T47 bt358.1 bt363.1).f3⟩ : S47)), bt379.2.1, bt379.2.2)) else (none)) else (none))) else (if bt366.1 = 2 then ((spec_l1Int.f s0_0 bt366.2.1 bt366.2.2 (([(-2), 0, 1, 5, 9223372036854775807] : List Int))).bind fun bt386 => (if 0 ≤ bt363.1 then (if bt363.1 < (bt358.1.length : Int) then (some ((bt358.1.set (bt363.1 : Int).toNat (⟨(rd_T47 bt358.1 bt363.1).f0, (rd_T47 bt358.1 bt363.1).f1, bt386.1, (rd_T47 bt358.1 bt363.1).f3⟩ : S47)), bt386.2.1, bt386.2.2)) else (none)) else (none))) else (if bt366.1 = 3 then ((spec_l1Int.f s0_0 bt366.2.1 bt366.2.2 (([(-1), 1, 10] : List Int))).bind fun bt393 => (if 0 ≤ bt363.1 then (if bt363.1 < (bt358.1.length : Int) then (some ((bt358.1.set (bt363.1 : Int).toNat (⟨(rd_T47 bt358.1 bt363.1).f0, (rd_T47 bt358.1 bt363.1).f1, (rd_T47 bt358.1 bt363.1).f2, bt393.1⟩ : S47)), bt393.2.1, bt393.2.2)) else (none)) else (none))) else (if bt366.1 = 4 then (spec_l4Any.l0 k bt358.1 s0_0 bt366.2.1 bt366.2.2) else (if bt366.1 = 5 then (some (([] : List (S47)), bt366.2.1, bt366.2.2)) else (some (bt358.1, bt366.2.1, bt366.2.2))))))))))
theorem spec_l4Any.mono_l : ∀ k, (∀ y0 y1 y2 y3, LeO (spec_l4Any.l0 k y0 y1 y2 y3) (spec_l4Any.l0 (k + 1) y0 y1 y2 y3))
 | 0 => fun _ _ _ _ r h => by simp [spec_l4Any.l0] at h
 | k + 1 => by
  have ih0 := spec_l4Any.mono_l k
  ·intro y0 y1 y2 y3
   unfold spec_l4Any.l0
   repeat' first
   | (with_reducible exact ih0 _ _ _ _)
   | (with_reducible exact spec_l4Draw.mono _ _ _ _)
   | (with_reducible exact LeO.refl _)
   | (with_reducible exact LeO.none _)
   | (with_reducible refine LeO.ite ?_ ?_)
   | (with_reducible refine LeO.bind ?_ (fun _ => ?_))
   | exact ih0 _ _ _ _
   | exact spec_l4Draw.mono _ _ _ _
   | exact LeO.none _
   | refine LeO.ite ?_ ?_
   | refine LeO.bind ?_ (fun _ => ?_)
theorem spec_l4Any.mono : ∀ a0 a1 a2 k, LeO (spec_l4Any.f k a0 a1 a2) (spec_l4Any.f (k + 1) a0 a1 a2) := by
 intro a0 a1 a2 k
 have ih0 := spec_l4Any.mono_l k
 unfold spec_l4Any.f
 repeat' first
   | (with_reducible exact ih0 _ _ _ _)
   | (with_reducible exact spec_l4Draw.mono _ _ _ _)
   | (with_reducible exact LeO.refl _)
   | (with_reducible exact LeO.none _)
   | (with_reducible refine LeO.ite ?_ ?_)
   | (with_reducible refine LeO.bind ?_ (fun _ => ?_))
   | exact ih0 _ _ _ _
   | exact spec_l4Draw.mono _ _ _ _
   | exact LeO.none _
   | refine LeO.ite ?_ ?_
   | refine LeO.bind ?_ (fun _ => ?_)
theorem spec_l4Any.zI78 {P Q : Prop} (h : Aside0 P) (hw : P → Q := by intro h_; repeat (first | (with_reducible first | exact h_ | apply IsS78.alloc | apply IsS78.drew | apply IsS78.drewN | apply IsS78.set_1 | apply IsS78.set_2) | exact h_)) : Q := hw h.out
set_option maxHeartbeats 8000000 in
set_option maxRecDepth 100000 in
theorem spec_l4Any.calls (k : Nat) (g : Nat) (s0_0 : List Int) (s0_1 : Int) (s0_2 : Int) (r1 : List (S47)) (r2 : Int) (r3 : Int) (w0 w : World) (hI : IsS78 w0 w g s0_0 s0_1 s0_2) (hB : Below w0.heap.size w0 w) (h : spec_l4Any.f k s0_0 s0_1 s0_2 = some (r1, r2, r3)) :
  Calls Try.prog 54 #[.pointer (some ⟨g, 0, none⟩)] w fun e w' => ∃ v0_ : Value, e = .returned (v0_) ∧ Kd.R k47 47 w' w.heap.size (fun _ => True) v0_ r1 ∧ IsS78 w0 w' g s0_0 r2 r3 ∧ Below w0.heap.size w0 w' ∧ KeepBut w w' g none := by
 have hu47 := Try.underlying47
 have HI0 := Aside0.mk hI
 have HK := Aside0.mk (KeepBut.refl w g none)
 have HL := Aside0.mk hB.size
 clear hI
 have HW0 := Aside0.mk hB.size
 have HB := Aside0.mk hB
 clear hB
 have H : ((spec_l4Draw.f k s0_0 s0_1 s0_2).bind fun bt358 => ((spec_l1Below.f s0_0 bt358.2.1 bt358.2.2 (bt358.1.length : Int)).bind fun bt363 => ((spec_l1Below.f s0_0 bt363.2.1 bt363.2.2 12).bind fun bt366 => (if bt366.1 = 0 then ((spec_l1Int.f s0_0 bt366.2.1 bt366.2.2 (([0, 4, 1] : List Int))).bind fun bt372 => (if 0 ≤ bt363.1 then (if bt363.1 < (bt358.1.length : Int) then (some ((bt358.1.set (bt363.1 : Int).toNat (⟨bt372.1, (rd_T47 bt358.1 bt363.1).f1, (rd_T47 bt358.1 bt363.1).f2, (rd_T47 bt358.1 bt363.1).f3⟩ : S47)), bt372.2.1, bt372.2.2)) else (none)) else (none))) else (if bt366.1 = 1 then ((spec_l1Int.f s0_0 bt366.2.1 bt366.2.2 (([0, 5, 6, 99, 100, 9223372036854775807] : List Int))).bind fun bt379 => (if 0 ≤ bt363.1 then (if bt363.1 < (bt358.1.length : Int) then (some ((bt358.1.set (bt363.1 : Int).toNat (⟨(rd_T47 bt358.1 bt363.1).f0, bt379.1, (rd_T47 bt358.1 bt363.1).f2, (rd_T47 bt358.1 bt363.1).f3⟩ : S47)), bt379.2.1, bt379.2.2)) else (none)) else (none))) else (if bt366.1 = 2 then ((spec_l1Int.f s0_0 bt366.2.1 bt366.2.2 (([(-2), 0, 1, 5, 9223372036854775807] : List Int))).bind fun bt386 => (if 0 ≤ bt363.1 then (if bt363.1 < (bt358.1.length : Int) then (some ((bt358.1.set (bt363.1 : Int).toNat (⟨(rd_T47 bt358.1 bt363.1).f0, (rd_T47 bt358.1 bt363.1).f1, bt386.1, (rd_T47 bt358.1 bt363.1).f3⟩ : S47)), bt386.2.1, bt386.2.2)) else (none)) else (none))) else (if bt366.1 = 3 then ((spec_l1Int.f s0_0 bt366.2.1 bt366.2.2 (([(-1), 1, 10] : List Int))).bind fun bt393 => (if 0 ≤ bt363.1 then (if bt363.1 < (bt358.1.length : Int) then (some ((bt358.1.set (bt363.1 : Int).toNat (⟨(rd_T47 bt358.1 bt363.1).f0, (rd_T47 bt358.1 bt363.1).f1, (rd_T47 bt358.1 bt363.1).f2, bt393.1⟩ : S47)), bt393.2.1, bt393.2.2)) else (none)) else (none))) else (if bt366.1 = 4 then (spec_l4Any.l0 k bt358.1 s0_0 bt366.2.1 bt366.2.2) else (if bt366.1 = 5 then (some (([] : List (S47)), bt366.2.1, bt366.2.2)) else (some (bt358.1, bt366.2.1, bt366.2.2))))))))))) = some (r1, r2, r3) := h
 clear h
 replace H := Option.bind_eq_some_iff.mp H
 obtain ⟨⟨t358, t361, t362⟩, A20, H⟩ := H
 replace H : ((spec_l1Below.f s0_0 t361 t362 (t358.length : Int)).bind fun bt363 => ((spec_l1Below.f s0_0 bt363.2.1 bt363.2.2 12).bind fun bt366 => (if bt366.1 = 0 then ((spec_l1Int.f s0_0 bt366.2.1 bt366.2.2 (([0, 4, 1] : List Int))).bind fun bt372 => (if 0 ≤ bt363.1 then (if bt363.1 < (t358.length : Int) then (some ((t358.set (bt363.1 : Int).toNat (⟨bt372.1, (rd_T47 t358 bt363.1).f1, (rd_T47 t358 bt363.1).f2, (rd_T47 t358 bt363.1).f3⟩ : S47)), bt372.2.1, bt372.2.2)) else (none)) else (none))) else (if bt366.1 = 1 then ((spec_l1Int.f s0_0 bt366.2.1 bt366.2.2 (([0, 5, 6, 99, 100, 9223372036854775807] : List Int))).bind fun bt379 => (if 0 ≤ bt363.1 then (if bt363.1 < (t358.length : Int) then (some ((t358.set (bt363.1 : Int).toNat (⟨(rd_T47 t358 bt363.1).f0, bt379.1, (rd_T47 t358 bt363.1).f2, (rd_T47 t358 bt363.1).f3⟩ : S47)), bt379.2.1, bt379.2.2)) else (none)) else (none))) else (if bt366.1 = 2 then ((spec_l1Int.f s0_0 bt366.2.1 bt366.2.2 (([(-2), 0, 1, 5, 9223372036854775807] : List Int))).bind fun bt386 => (if 0 ≤ bt363.1 then (if bt363.1 < (t358.length : Int) then (some ((t358.set (bt363.1 : Int).toNat (⟨(rd_T47 t358 bt363.1).f0, (rd_T47 t358 bt363.1).f1, bt386.1, (rd_T47 t358 bt363.1).f3⟩ : S47)), bt386.2.1, bt386.2.2)) else (none)) else (none))) else (if bt366.1 = 3 then ((spec_l1Int.f s0_0 bt366.2.1 bt366.2.2 (([(-1), 1, 10] : List Int))).bind fun bt393 => (if 0 ≤ bt363.1 then (if bt363.1 < (t358.length : Int) then (some ((t358.set (bt363.1 : Int).toNat (⟨(rd_T47 t358 bt363.1).f0, (rd_T47 t358 bt363.1).f1, (rd_T47 t358 bt363.1).f2, bt393.1⟩ : S47)), bt393.2.1, bt393.2.2)) else (none)) else (none))) else (if bt366.1 = 4 then (spec_l4Any.l0 k t358 s0_0 bt366.2.1 bt366.2.2) else (if bt366.1 = 5 then (some (([] : List (S47)), bt366.2.1, bt366.2.2)) else (some (t358, bt366.2.1, bt366.2.2)))))))))) = some (r1, r2, r3) := H
 have A2 := Aside0.mk A20
 clear A20
 replace H := Option.bind_eq_some_iff.mp H
 obtain ⟨⟨t363, t364, t365⟩, A30, H⟩ := H
 replace H : ((spec_l1Below.f s0_0 t364 t365 12).bind fun bt366 => (if bt366.1 = 0 then ((spec_l1Int.f s0_0 bt366.2.1 bt366.2.2 (([0, 4, 1] : List Int))).bind fun bt372 => (if 0 ≤ t363 then (if t363 < (t358.length : Int) then (some ((t358.set (t363 : Int).toNat (⟨bt372.1, (rd_T47 t358 t363).f1, (rd_T47 t358 t363).f2, (rd_T47 t358 t363).f3⟩ : S47)), bt372.2.1, bt372.2.2)) else (none)) else (none))) else (if bt366.1 = 1 then ((spec_l1Int.f s0_0 bt366.2.1 bt366.2.2 (([0, 5, 6, 99, 100, 9223372036854775807] : List Int))).bind fun bt379 => (if 0 ≤ t363 then (if t363 < (t358.length : Int) then (some ((t358.set (t363 : Int).toNat (⟨(rd_T47 t358 t363).f0, bt379.1, (rd_T47 t358 t363).f2, (rd_T47 t358 t363).f3⟩ : S47)), bt379.2.1, bt379.2.2)) else (none)) else (none))) else (if bt366.1 = 2 then ((spec_l1Int.f s0_0 bt366.2.1 bt366.2.2 (([(-2), 0, 1, 5, 9223372036854775807] : List Int))).bind fun bt386 => (if 0 ≤ t363 then (if t363 < (t358.length : Int) then (some ((t358.set (t363 : Int).toNat (⟨(rd_T47 t358 t363).f0, (rd_T47 t358 t363).f1, bt386.1, (rd_T47 t358 t363).f3⟩ : S47)), bt386.2.1, bt386.2.2)) else (none)) else (none))) else (if bt366.1 = 3 then ((spec_l1Int.f s0_0 bt366.2.1 bt366.2.2 (([(-1), 1, 10] : List Int))).bind fun bt393 => (if 0 ≤ t363 then (if t363 < (t358.length : Int) then (some ((t358.set (t363 : Int).toNat (⟨(rd_T47 t358 t363).f0, (rd_T47 t358 t363).f1, (rd_T47 t358 t363).f2, bt393.1⟩ : S47)), bt393.2.1, bt393.2.2)) else (none)) else (none))) else (if bt366.1 = 4 then (spec_l4Any.l0 k t358 s0_0 bt366.2.1 bt366.2.2) else (if bt366.1 = 5 then (some (([] : List (S47)), bt366.2.1, bt366.2.2)) else (some (t358, bt366.2.1, bt366.2.2))))))))) = some (r1, r2, r3) := H
 have A3 := Aside0.mk A30
 clear A30
 replace H := Option.bind_eq_some_iff.mp H
 obtain ⟨⟨t366, t367, t368⟩, A40, H⟩ := H
 replace H : (if t366 = 0 then ((spec_l1Int.f s0_0 t367 t368 (([0, 4, 1] : List Int))).bind fun bt372 => (if 0 ≤ t363 then (if t363 < (t358.length : Int) then (some ((t358.set (t363 : Int).toNat (⟨bt372.1, (rd_T47 t358 t363).f1, (rd_T47 t358 t363).f2, (rd_T47 t358 t363).f3⟩ : S47)), bt372.2.1, bt372.2.2)) else (none)) else (none))) else (if t366 = 1 then ((spec_l1Int.f s0_0 t367 t368 (([0, 5, 6, 99, 100, 9223372036854775807] : List Int))).bind fun bt379 => (if 0 ≤ t363 then (if t363 < (t358.length : Int) then (some ((t358.set (t363 : Int).toNat (⟨(rd_T47 t358 t363).f0, bt379.1, (rd_T47 t358 t363).f2, (rd_T47 t358 t363).f3⟩ : S47)), bt379.2.1, bt379.2.2)) else (none)) else (none))) else (if t366 = 2 then ((spec_l1Int.f s0_0 t367 t368 (([(-2), 0, 1, 5, 9223372036854775807] : List Int))).bind fun bt386 => (if 0 ≤ t363 then (if t363 < (t358.length : Int) then (some ((t358.set (t363 : Int).toNat (⟨(rd_T47 t358 t363).f0, (rd_T47 t358 t363).f1, bt386.1, (rd_T47 t358 t363).f3⟩ : S47)), bt386.2.1, bt386.2.2)) else (none)) else (none))) else (if t366 = 3 then ((spec_l1Int.f s0_0 t367 t368 (([(-1), 1, 10] : List Int))).bind fun bt393 => (if 0 ≤ t363 then (if t363 < (t358.length : Int) then (some ((t358.set (t363 : Int).toNat (⟨(rd_T47 t358 t363).f0, (rd_T47 t358 t363).f1, (rd_T47 t358 t363).f2, bt393.1⟩ : S47)), bt393.2.1, bt393.2.2)) else (none)) else (none))) else (if t366 = 4 then (spec_l4Any.l0 k t358 s0_0 t367 t368) else (if t366 = 5 then (some (([] : List (S47)), t367, t368)) else (some (t358, t367, t368)))))))) = some (r1, r2, r3) := H
 have A4 := Aside0.mk A40
 clear A40
 by_cases c5 : t366 = 0
 ·rw [if_pos c5] at H
  have c5b0 : (t366 == 0) = true := beq_iff_eq.mpr c5
  have c5b1 : (t366 != 0) = false := bne_eq_false_iff_eq.mpr c5
  clear c5
  obtain ⟨y369, hy369⟩ : ∃ y_ : List Int, y_ = (([0, 4, 1] : List Int)) := ⟨_, rfl⟩
  replace H : ((spec_l1Int.f s0_0 t367 t368 y369).bind fun bt372 => (if 0 ≤ t363 then (if t363 < (t358.length : Int) then (some ((t358.set (t363 : Int).toNat (⟨bt372.1, (rd_T47 t358 t363).f1, (rd_T47 t358 t363).f2, (rd_T47 t358 t363).f3⟩ : S47)), bt372.2.1, bt372.2.2)) else (none)) else (none))) = some (r1, r2, r3) := by first | (rw [hy369]; with_reducible exact H) | (have H2_ := (Option.bind_some _ _).symm.trans H; rw [hy369]; with_reducible exact H2_) | (have H2_ := (Option.bind_some _ _).symm.trans H; with_reducible exact H2_) | with_reducible exact H | (rw [hy369]; exact H) | exact H
  have Ny369 := Aside0.mk hy369
  clear hy369
  replace H := Option.bind_eq_some_iff.mp H
  obtain ⟨⟨t372, t373, t374⟩, A60, H⟩ := H
  replace H : (if 0 ≤ t363 then (if t363 < (t358.length : Int) then (some ((t358.set (t363 : Int).toNat (⟨t372, (rd_T47 t358 t363).f1, (rd_T47 t358 t363).f2, (rd_T47 t358 t363).f3⟩ : S47)), t373, t374)) else (none)) else (none)) = some (r1, r2, r3) := H
  have A6 := Aside0.mk A60
  clear A60
  obtain ⟨c7, H⟩ := ifS H
  have c7b0 : decide (0 ≤ t363) = true := decide_eq_true c7
  clear c7
  obtain ⟨c8, H⟩ := ifS H
  have c8b0 : decide (t363 < (t358.length : Int)) = true := decide_eq_true c8
  clear c8
  obtain ⟨y375, hy375⟩ : ∃ y_ : List (S47), y_ = (t358.set (t363 : Int).toNat (⟨t372, (rd_T47 t358 t363).f1, (rd_T47 t358 t363).f2, (rd_T47 t358 t363).f3⟩ : S47)) := ⟨_, rfl⟩
  replace H : (some (y375, t373, t374)) = some (r1, r2, r3) := by first | (rw [hy375]; with_reducible exact H) | (have H2_ := (Option.bind_some _ _).symm.trans H; rw [hy375]; with_reducible exact H2_) | (have H2_ := (Option.bind_some _ _).symm.trans H; with_reducible exact H2_) | with_reducible exact H | (rw [hy375]; exact H) | exact H
  have Ny375 := Aside0.mk hy375
  clear hy375
  simp only [Option.some.injEq, Prod.mk.injEq] at H
  obtain ⟨rfl, rfl, rfl⟩ := H
  go_enter Try.func54, Try.ntmps54
  go_wp2_with (first | ((with_reducible refine gate_callee (f := 51) rfl ?_); refine goesL_ (some 6) rfl rfl Try.func51 (by kernel_rfl) rfl #[.pointer (some ⟨g, 0, none⟩)] rfl zG ?_; (with_reducible refine (spec_l4Draw.calls k g s0_0 s0_1 s0_2 t358 t361 t362 w0 _ ?side1 ?side2 A2.out).mono ?_); (case side1 => exact spec_l4Any.zI78 HI0); (case side2 => repeat (first | (with_reducible first | exact HB.out | apply below_alloc | apply pw_below_drewN | apply below_drew1 | refine below_set ?_ (IsS78.ge HI0.out)) | exact HB.out)); rintro e w10 ⟨v359, rfl, ho0, hi, hb, hk⟩; refine ⟨_, rfl, ?_⟩; have HO360 := Aside0.mk (Kd.R_lower ho0 (keep_size (w := w) (g := g) (row := none) (zH HK))); replace HK := Aside0.mk (KeepBut.trans (zH HK) hk (.inl rfl)); replace HB := Aside0.mk (hb); replace HI0 := Aside0.mk (hi); (try clear hb); (try clear ho0); obtain ⟨Ao11, co11, eo11⟩ := Kd.R_slice HO360.out; subst eo11) | ((with_reducible refine gate_callee (f := 53) rfl ?_); refine goesL_ (some 10) rfl rfl Try.func53 (by kernel_rfl) rfl #[.pointer (some ⟨g, 0, none⟩), .int .i64 (t358.length : Int)] rfl zG ?_; (with_reducible refine (spec_l1Below.calls g s0_0 t361 t362 (t358.length : Int) t363 t364 t365 w0 _ ?side1 ?side2 A3.out).mono ?_); (case side1 => exact spec_l4Any.zI78 HI0); (case side2 => repeat (first | (with_reducible first | exact HB.out | apply below_alloc | apply pw_below_drewN | apply below_drew1 | refine below_set ?_ (IsS78.ge HI0.out)) | exact HB.out)); rintro e w12 ⟨rfl, hi, hb, hk⟩; refine ⟨_, rfl, ?_⟩; replace HO360 := Aside0.mk (Kd.R_mono (Kd.R_keep (IsS78.apart (show IsS78 w0 _ g s0_0 t361 t362 from spec_l4Any.zI78 HI0) (zR HO360) (by decide)) hk (fun _ h => h.2)) (fun _ h => h.1)); replace HK := Aside0.mk (KeepBut.trans (zH HK) hk (.inl rfl)); replace HB := Aside0.mk (hb); replace HI0 := Aside0.mk (hi); (try clear hb)) | ((with_reducible refine gate_callee (f := 53) rfl ?_); refine goesL_ (some 12) rfl rfl Try.func53 (by kernel_rfl) rfl #[.pointer (some ⟨g, 0, none⟩), .int .i64 12] rfl zG ?_; (with_reducible refine (spec_l1Below.calls g s0_0 t364 t365 12 t366 t367 t368 w0 _ ?side1 ?side2 A4.out).mono ?_); (case side1 => exact spec_l4Any.zI78 HI0); (case side2 => repeat (first | (with_reducible first | exact HB.out | apply below_alloc | apply pw_below_drewN | apply below_drew1 | refine below_set ?_ (IsS78.ge HI0.out)) | exact HB.out)); rintro e w13 ⟨rfl, hi, hb, hk⟩; refine ⟨_, rfl, ?_⟩; replace HO360 := Aside0.mk (Kd.R_mono (Kd.R_keep (IsS78.apart (show IsS78 w0 _ g s0_0 t364 t365 from spec_l4Any.zI78 HI0) (zR HO360) (by decide)) hk (fun _ h => h.2)) (fun _ h => h.1)); replace HK := Aside0.mk (KeepBut.trans (zH HK) hk (.inl rfl)); replace HB := Aside0.mk (hb); replace HI0 := Aside0.mk (hi); (try clear hb)) | ((with_reducible refine gate_dst (N := 18) rfl ?_); refine Kd.R_lit (Kd.int .i64) _ 3 ?hg (N := 18) ?hd (xs := ([0, 4, 1] : List Int)) (inner := [.int .i64 0, .int .i64 4, .int .i64 1]) (ok := fun _ => True) (okp := fun _ => True) ?hr ?hp (fun _ hk => hk) trivial (Below.refl _ _) (Nat.le_refl _) (by simp) ?_; (case hd => rfl); (case hg => rfl); (case hr => first | (go_simp; done) | (go_simp; rfl)); (case hp => exact (Reps.one (show Kd.M (Kd.int .i64) _ _ _ 0 [.int .i64 0] from rfl) (Reps.one (show Kd.M (Kd.int .i64) _ _ _ 4 [.int .i64 4] from rfl) (Reps.one (show Kd.M (Kd.int .i64) _ _ _ 1 [.int .i64 1] from rfl) (Reps.none _ _))))); intro v370 w14 ho15 hb hg_ hnew_; clear hg_ hnew_; (first | rw [← Ny369.out] at ho15 | (simp only [Int.reduceToNat] at ho15; rw [← Ny369.out] at ho15)); replace HO360 := Aside0.mk (Kd.R_below (zR HO360) hb); have HO371 := Aside0.mk (Kd.R_lower ho15 (keep_size (w := w) (g := g) (row := none) (zH HK))); replace HK := Aside0.mk (KeepBut.trans (zH HK) (KeepBut.of_below hb g none) (.inl rfl)); replace HB := Aside0.mk (below_step (by repeat (first | (with_reducible first | exact HB.out | apply below_alloc | apply pw_below_drewN | apply below_drew1 | refine below_set ?_ (IsS78.ge HI0.out)) | exact HB.out)) hb); replace HI0 := Aside0.mk (IsS78.below (spec_l4Any.zI78 HI0) hb); clear hb ho15; obtain ⟨Ao16, co16, eo16⟩ := Kd.R_slice HO371.out; subst eo16) | ((with_reducible refine gate_callee (f := 68) rfl ?_); refine goesL_ (some 19) rfl rfl Try.func68 (by kernel_rfl) rfl #[.pointer (some ⟨g, 0, none⟩), .slice Ao16 y369.length co16] rfl zG ?_; (with_reducible refine (spec_l1Int.calls g s0_0 t367 t368 _ _ y369 t372 t373 t374 w0 _ ?side1 ?side2 ?side3 ?side4 ?side5 A6.out).mono ?_); (case side1 => exact spec_l4Any.zI78 HI0); (case side2 => repeat (first | (with_reducible first | exact HB.out | apply below_alloc | apply pw_below_drewN | apply below_drew1 | refine below_set ?_ (IsS78.ge HI0.out)) | exact HB.out)); (case side3 => repeat (first | exact (Kd.R_reads' HO371.out).2.2 | (with_reducible refine Kd.C_alloc ?_ _) | (with_reducible refine Kd.C_drewN ?_ _) | (with_reducible refine Kd.C_drew ?_))); (case side4 => exact (Kd.R_reads' HO371.out).2.1); (case side5 => exact far_slice (IsS78.own_ne HI0.out HO371.out (by decide))); rintro e w17 ⟨rfl, hi, hb, hk⟩; refine ⟨_, rfl, ?_⟩; replace HO360 := Aside0.mk (Kd.R_mono (Kd.R_keep (IsS78.apart (show IsS78 w0 _ g s0_0 t367 t368 from spec_l4Any.zI78 HI0) (zR HO360) (by decide)) hk (fun _ h => h.2)) (fun _ h => h.1)); replace HO371 := Aside0.mk (Kd.R_mono (Kd.R_keep (IsS78.apart (show IsS78 w0 _ g s0_0 t367 t368 from spec_l4Any.zI78 HI0) (zR HO371) (by decide)) hk (fun _ h => h.2)) (fun _ h => h.1)); replace HK := Aside0.mk (KeepBut.trans (zH HK) hk (.inl rfl)); replace HB := Aside0.mk (hb); replace HI0 := Aside0.mk (hi); (try clear hb); have p9 : 0 ≤ (t363 : Int) := zD; have q9 : (t363 : Int) < ((t358.length : Int) : Int) := zD; obtain ⟨go9, co9, eo9, gb9, gl9, cl9, HG9⟩ := Kd.R_form HO360.out (by omega); (first | cases eo9 | (injection eo9 with ea_ en_ ec_; (first | subst ea_ | (injection ea_ with ea_; subst ea_)); subst ec_; clear en_)); have GB9 := Aside0.mk gb9; have GG9 := Aside0.mk HG9; clear gb9 gl9 HG9; obtain ⟨ce9, hcl9, hM9, hcc9, hfr9⟩ := Kd.R_elem HO360.out z47 (t363 : Int) p9 q9; obtain rfl := k47_openM hM9; have hx9_0 : w17.cell? ⟨go9, (t363 : Int).toNat * 4, none⟩ = some (.int .i64 ((rd_T47 t358 t363).f0)) := hcc9 0 _ rfl; have hx9_1 : w17.cell? ⟨go9, (t363 : Int).toNat * 4 + 1, none⟩ = some (.int .i64 ((rd_T47 t358 t363).f1)) := hcc9 1 _ rfl; have hx9_2 : w17.cell? ⟨go9, (t363 : Int).toNat * 4 + 2, none⟩ = some (.int .i64 ((rd_T47 t358 t363).f2)) := hcc9 2 _ rfl; have hx9_3 : w17.cell? ⟨go9, (t363 : Int).toNat * 4 + 3, none⟩ = some (.int .i64 ((rd_T47 t358 t363).f3)) := hcc9 3 _ rfl; have hf9_0 : w17.frozen? ⟨go9, (t363 : Int).toNat * 4, none⟩ = false := hfr9 0; have hf9_1 : w17.frozen? ⟨go9, (t363 : Int).toNat * 4 + 1, none⟩ = false := hfr9 1; have hf9_2 : w17.frozen? ⟨go9, (t363 : Int).toNat * 4 + 2, none⟩ = false := hfr9 2; have hf9_3 : w17.frozen? ⟨go9, (t363 : Int).toNat * 4 + 3, none⟩ = false := hfr9 3; clear hcl9 hcc9 hfr9 hM9; replace p9 := eq_true p9; replace q9 := eq_true q9; have HX18 := Aside0.mk (show Kd.R k47 47 w17 w.heap.size (fun _ => True) (.slice (some ⟨go9, 0, none⟩) t358.length co11) t358 from (zR HO360)); obtain ⟨ce18, hcl18, hM18, hcc18, hfr18⟩ := Kd.R_elem HX18.out z47 (t363 : Int) (zD) (by have h_ : (t363 : Int) < ((t358.length : Int) : Int) := zD; first | exact h_ | (have e_ := (Kd.R_reads' HO360.out).1; omega) | simpa using h_); obtain rfl := k47_openM hM18; have HP18 := Kd.R_seg HX18.out (t363 : Int) (zD) (by have h_ : (t363 : Int) < ((t358.length : Int) : Int) := zD; first | exact h_ | (have e_ := (Kd.R_reads' HO360.out).1; omega) | simpa using h_) (seg := [.int .i64 t372]) (j := 0) hcl18 hcc18 (show 1 ≤ 4 from by decide) (x' := (⟨t372, (rd_T47 t358 t363).f1, (rd_T47 t358 t363).f2, (rd_T47 t358 t363).f3⟩ : S47)) (k47_mkM _ _ _ (⟨t372, (rd_T47 t358 t363).f1, (rd_T47 t358 t363).f2, (rd_T47 t358 t363).f3⟩ : S47) ) (fun _ hk => hk); have hx18_0 := hcc18 0 _ rfl; (try simp only [show (k47).sz = 4 from rfl, Nat.mul_one, Nat.add_zero] at hx18_0); have hf18_0 := hfr18 0; (try simp only [show (k47).sz = 4 from rfl, Nat.mul_one, Nat.add_zero] at hf18_0); clear hcl18 hcc18 hfr18 hM18) | ((with_reducible refine gate_store (t := 3) (p := 21) rfl ?_); refine store_event (t := 3) (p := 21) (v := ?vo_w19) (w1 := (w17.setCell ⟨go9, (t363 : Int).toNat * 4, none⟩ (.int .i64 t372))) ?hg ?ho ?hn ?hr ?_; (case ho => rfl); (case hg => rfl); (case hn => rfl); (case hr => first | (go_simp; done) | (go_simp; rfl)); intro w19 hw; have hg : w17.grownBy w19 (some go9) := (by rw [hw]; exact HP18.2); have hp_ : Kd.R k47 47 w19 w.heap.size (fun _ => True) (.slice (some ⟨go9, 0, none⟩) t358.length co11) y375 := (by rw [hw, Ny375.out]; exact HP18.1); clear HP18; replace HI0 := Aside0.mk (IsS78.grown (spec_l4Any.zI78 HI0) hg (IsS78.own_ne HI0.out HO360.out (by decide))); replace HO371 := Aside0.mk (Kd.R_over' (v := (.slice (some ⟨go9, 0, none⟩) t358.length co11)) (zR HO371) (Kd.R_typed HO360.out) (by decide) hg); replace HB := Aside0.mk ((by rw [hw]; exact below_set (HB.out) (Nat.le_trans HL.out GB9.out) : Below w0.heap.size w0 w19)); replace HK := Aside0.mk (KeepBut.trans (zH HK) (KeepBut.of_grown hg g) (Kd.R_base2 HO360.out)); replace HO360 := Aside0.mk (hp_); clear hg hw hp_))
  go_ret
  exact ⟨_, zE, by (with_reducible repeat (first | apply Kd.R_alloc | apply Kd.R_drewN | apply Kd.R_drew)); exact HO360.out, spec_l4Any.zI78 HI0, by repeat (first | (with_reducible first | exact HB.out | apply below_alloc | apply pw_below_drewN | apply below_drew1 | refine below_set ?_ (IsS78.ge HI0.out)) | exact HB.out), zH HK⟩
 ·rw [if_neg c5] at H
  have c5b0 : (t366 == 0) = false := beq_eq_false_iff_ne.mpr c5
  have c5b1 : (t366 != 0) = true := bne_iff_ne.mpr c5
  by_cases c20 : t366 = 1
  ·rw [if_pos c20] at H
   have c20b0 : (t366 == 1) = true := beq_iff_eq.mpr c20
   have c20b1 : (t366 != 1) = false := bne_eq_false_iff_eq.mpr c20
   clear c20
   obtain ⟨y376, hy376⟩ : ∃ y_ : List Int, y_ = (([0, 5, 6, 99, 100, 9223372036854775807] : List Int)) := ⟨_, rfl⟩
   replace H : ((spec_l1Int.f s0_0 t367 t368 y376).bind fun bt379 => (if 0 ≤ t363 then (if t363 < (t358.length : Int) then (some ((t358.set (t363 : Int).toNat (⟨(rd_T47 t358 t363).f0, bt379.1, (rd_T47 t358 t363).f2, (rd_T47 t358 t363).f3⟩ : S47)), bt379.2.1, bt379.2.2)) else (none)) else (none))) = some (r1, r2, r3) := by first | (rw [hy376]; with_reducible exact H) | (have H2_ := (Option.bind_some _ _).symm.trans H; rw [hy376]; with_reducible exact H2_) | (have H2_ := (Option.bind_some _ _).symm.trans H; with_reducible exact H2_) | with_reducible exact H | (rw [hy376]; exact H) | exact H
   have Ny376 := Aside0.mk hy376
   clear hy376
   replace H := Option.bind_eq_some_iff.mp H
   obtain ⟨⟨t379, t380, t381⟩, A210, H⟩ := H
   replace H : (if 0 ≤ t363 then (if t363 < (t358.length : Int) then (some ((t358.set (t363 : Int).toNat (⟨(rd_T47 t358 t363).f0, t379, (rd_T47 t358 t363).f2, (rd_T47 t358 t363).f3⟩ : S47)), t380, t381)) else (none)) else (none)) = some (r1, r2, r3) := H
   have A21 := Aside0.mk A210
   clear A210
   obtain ⟨c22, H⟩ := ifS H
   have c22b0 : decide (0 ≤ t363) = true := decide_eq_true c22
   clear c22
   obtain ⟨c23, H⟩ := ifS H
   have c23b0 : decide (t363 < (t358.length : Int)) = true := decide_eq_true c23
   clear c23
   obtain ⟨y382, hy382⟩ : ∃ y_ : List (S47), y_ = (t358.set (t363 : Int).toNat (⟨(rd_T47 t358 t363).f0, t379, (rd_T47 t358 t363).f2, (rd_T47 t358 t363).f3⟩ : S47)) := ⟨_, rfl⟩
   replace H : (some (y382, t380, t381)) = some (r1, r2, r3) := by first | (rw [hy382]; with_reducible exact H) | (have H2_ := (Option.bind_some _ _).symm.trans H; rw [hy382]; with_reducible exact H2_) | (have H2_ := (Option.bind_some _ _).symm.trans H; with_reducible exact H2_) | with_reducible exact H | (rw [hy382]; exact H) | exact H
   have Ny382 := Aside0.mk hy382
   clear hy382
   simp only [Option.some.injEq, Prod.mk.injEq] at H
   obtain ⟨rfl, rfl, rfl⟩ := H
   go_enter Try.func54, Try.ntmps54
   go_wp2_with (first | ((with_reducible refine gate_callee (f := 51) rfl ?_); refine goesL_ (some 6) rfl rfl Try.func51 (by kernel_rfl) rfl #[.pointer (some ⟨g, 0, none⟩)] rfl zG ?_; (with_reducible refine (spec_l4Draw.calls k g s0_0 s0_1 s0_2 t358 t361 t362 w0 _ ?side1 ?side2 A2.out).mono ?_); (case side1 => exact spec_l4Any.zI78 HI0); (case side2 => repeat (first | (with_reducible first | exact HB.out | apply below_alloc | apply pw_below_drewN | apply below_drew1 | refine below_set ?_ (IsS78.ge HI0.out)) | exact HB.out)); rintro e w25 ⟨v359, rfl, ho0, hi, hb, hk⟩; refine ⟨_, rfl, ?_⟩; have HO360 := Aside0.mk (Kd.R_lower ho0 (keep_size (w := w) (g := g) (row := none) (zH HK))); replace HK := Aside0.mk (KeepBut.trans (zH HK) hk (.inl rfl)); replace HB := Aside0.mk (hb); replace HI0 := Aside0.mk (hi); (try clear hb); (try clear ho0); obtain ⟨Ao26, co26, eo26⟩ := Kd.R_slice HO360.out; subst eo26) | ((with_reducible refine gate_callee (f := 53) rfl ?_); refine goesL_ (some 10) rfl rfl Try.func53 (by kernel_rfl) rfl #[.pointer (some ⟨g, 0, none⟩), .int .i64 (t358.length : Int)] rfl zG ?_; (with_reducible refine (spec_l1Below.calls g s0_0 t361 t362 (t358.length : Int) t363 t364 t365 w0 _ ?side1 ?side2 A3.out).mono ?_); (case side1 => exact spec_l4Any.zI78 HI0); (case side2 => repeat (first | (with_reducible first | exact HB.out | apply below_alloc | apply pw_below_drewN | apply below_drew1 | refine below_set ?_ (IsS78.ge HI0.out)) | exact HB.out)); rintro e w27 ⟨rfl, hi, hb, hk⟩; refine ⟨_, rfl, ?_⟩; replace HO360 := Aside0.mk (Kd.R_mono (Kd.R_keep (IsS78.apart (show IsS78 w0 _ g s0_0 t361 t362 from spec_l4Any.zI78 HI0) (zR HO360) (by decide)) hk (fun _ h => h.2)) (fun _ h => h.1)); replace HK := Aside0.mk (KeepBut.trans (zH HK) hk (.inl rfl)); replace HB := Aside0.mk (hb); replace HI0 := Aside0.mk (hi); (try clear hb)) | ((with_reducible refine gate_callee (f := 53) rfl ?_); refine goesL_ (some 12) rfl rfl Try.func53 (by kernel_rfl) rfl #[.pointer (some ⟨g, 0, none⟩), .int .i64 12] rfl zG ?_; (with_reducible refine (spec_l1Below.calls g s0_0 t364 t365 12 t366 t367 t368 w0 _ ?side1 ?side2 A4.out).mono ?_); (case side1 => exact spec_l4Any.zI78 HI0); (case side2 => repeat (first | (with_reducible first | exact HB.out | apply below_alloc | apply pw_below_drewN | apply below_drew1 | refine below_set ?_ (IsS78.ge HI0.out)) | exact HB.out)); rintro e w28 ⟨rfl, hi, hb, hk⟩; refine ⟨_, rfl, ?_⟩; replace HO360 := Aside0.mk (Kd.R_mono (Kd.R_keep (IsS78.apart (show IsS78 w0 _ g s0_0 t364 t365 from spec_l4Any.zI78 HI0) (zR HO360) (by decide)) hk (fun _ h => h.2)) (fun _ h => h.1)); replace HK := Aside0.mk (KeepBut.trans (zH HK) hk (.inl rfl)); replace HB := Aside0.mk (hb); replace HI0 := Aside0.mk (hi); (try clear hb)) | ((with_reducible refine gate_dst (N := 27) rfl ?_); refine Kd.R_lit (Kd.int .i64) _ 3 ?hg (N := 27) ?hd (xs := ([0, 5, 6, 99, 100, 9223372036854775807] : List Int)) (inner := [.int .i64 0, .int .i64 5, .int .i64 6, .int .i64 99, .int .i64 100, .int .i64 9223372036854775807]) (ok := fun _ => True) (okp := fun _ => True) ?hr ?hp (fun _ hk => hk) trivial (Below.refl _ _) (Nat.le_refl _) (by simp) ?_; (case hd => rfl); (case hg => rfl); (case hr => first | (go_simp; done) | (go_simp; rfl)); (case hp => exact (Reps.one (show Kd.M (Kd.int .i64) _ _ _ 0 [.int .i64 0] from rfl) (Reps.one (show Kd.M (Kd.int .i64) _ _ _ 5 [.int .i64 5] from rfl) (Reps.one (show Kd.M (Kd.int .i64) _ _ _ 6 [.int .i64 6] from rfl) (Reps.one (show Kd.M (Kd.int .i64) _ _ _ 99 [.int .i64 99] from rfl) (Reps.one (show Kd.M (Kd.int .i64) _ _ _ 100 [.int .i64 100] from rfl) (Reps.one (show Kd.M (Kd.int .i64) _ _ _ 9223372036854775807 [.int .i64 9223372036854775807] from rfl) (Reps.none _ _)))))))); intro v377 w29 ho30 hb hg_ hnew_; clear hg_ hnew_; (first | rw [← Ny376.out] at ho30 | (simp only [Int.reduceToNat] at ho30; rw [← Ny376.out] at ho30)); replace HO360 := Aside0.mk (Kd.R_below (zR HO360) hb); have HO378 := Aside0.mk (Kd.R_lower ho30 (keep_size (w := w) (g := g) (row := none) (zH HK))); replace HK := Aside0.mk (KeepBut.trans (zH HK) (KeepBut.of_below hb g none) (.inl rfl)); replace HB := Aside0.mk (below_step (by repeat (first | (with_reducible first | exact HB.out | apply below_alloc | apply pw_below_drewN | apply below_drew1 | refine below_set ?_ (IsS78.ge HI0.out)) | exact HB.out)) hb); replace HI0 := Aside0.mk (IsS78.below (spec_l4Any.zI78 HI0) hb); clear hb ho30; obtain ⟨Ao31, co31, eo31⟩ := Kd.R_slice HO378.out; subst eo31) | ((with_reducible refine gate_callee (f := 68) rfl ?_); refine goesL_ (some 28) rfl rfl Try.func68 (by kernel_rfl) rfl #[.pointer (some ⟨g, 0, none⟩), .slice Ao31 y376.length co31] rfl zG ?_; (with_reducible refine (spec_l1Int.calls g s0_0 t367 t368 _ _ y376 t379 t380 t381 w0 _ ?side1 ?side2 ?side3 ?side4 ?side5 A21.out).mono ?_); (case side1 => exact spec_l4Any.zI78 HI0); (case side2 => repeat (first | (with_reducible first | exact HB.out | apply below_alloc | apply pw_below_drewN | apply below_drew1 | refine below_set ?_ (IsS78.ge HI0.out)) | exact HB.out)); (case side3 => repeat (first | exact (Kd.R_reads' HO378.out).2.2 | (with_reducible refine Kd.C_alloc ?_ _) | (with_reducible refine Kd.C_drewN ?_ _) | (with_reducible refine Kd.C_drew ?_))); (case side4 => exact (Kd.R_reads' HO378.out).2.1); (case side5 => exact far_slice (IsS78.own_ne HI0.out HO378.out (by decide))); rintro e w32 ⟨rfl, hi, hb, hk⟩; refine ⟨_, rfl, ?_⟩; replace HO360 := Aside0.mk (Kd.R_mono (Kd.R_keep (IsS78.apart (show IsS78 w0 _ g s0_0 t367 t368 from spec_l4Any.zI78 HI0) (zR HO360) (by decide)) hk (fun _ h => h.2)) (fun _ h => h.1)); replace HO378 := Aside0.mk (Kd.R_mono (Kd.R_keep (IsS78.apart (show IsS78 w0 _ g s0_0 t367 t368 from spec_l4Any.zI78 HI0) (zR HO378) (by decide)) hk (fun _ h => h.2)) (fun _ h => h.1)); replace HK := Aside0.mk (KeepBut.trans (zH HK) hk (.inl rfl)); replace HB := Aside0.mk (hb); replace HI0 := Aside0.mk (hi); (try clear hb); have p24 : 0 ≤ (t363 : Int) := zD; have q24 : (t363 : Int) < ((t358.length : Int) : Int) := zD; obtain ⟨go24, co24, eo24, gb24, gl24, cl24, HG24⟩ := Kd.R_form HO360.out (by omega); (first | cases eo24 | (injection eo24 with ea_ en_ ec_; (first | subst ea_ | (injection ea_ with ea_; subst ea_)); subst ec_; clear en_)); have GB24 := Aside0.mk gb24; have GG24 := Aside0.mk HG24; clear gb24 gl24 HG24; obtain ⟨ce24, hcl24, hM24, hcc24, hfr24⟩ := Kd.R_elem HO360.out z47 (t363 : Int) p24 q24; obtain rfl := k47_openM hM24; have hx24_0 : w32.cell? ⟨go24, (t363 : Int).toNat * 4, none⟩ = some (.int .i64 ((rd_T47 t358 t363).f0)) := hcc24 0 _ rfl; have hx24_1 : w32.cell? ⟨go24, (t363 : Int).toNat * 4 + 1, none⟩ = some (.int .i64 ((rd_T47 t358 t363).f1)) := hcc24 1 _ rfl; have hx24_2 : w32.cell? ⟨go24, (t363 : Int).toNat * 4 + 2, none⟩ = some (.int .i64 ((rd_T47 t358 t363).f2)) := hcc24 2 _ rfl; have hx24_3 : w32.cell? ⟨go24, (t363 : Int).toNat * 4 + 3, none⟩ = some (.int .i64 ((rd_T47 t358 t363).f3)) := hcc24 3 _ rfl; have hf24_0 : w32.frozen? ⟨go24, (t363 : Int).toNat * 4, none⟩ = false := hfr24 0; have hf24_1 : w32.frozen? ⟨go24, (t363 : Int).toNat * 4 + 1, none⟩ = false := hfr24 1; have hf24_2 : w32.frozen? ⟨go24, (t363 : Int).toNat * 4 + 2, none⟩ = false := hfr24 2; have hf24_3 : w32.frozen? ⟨go24, (t363 : Int).toNat * 4 + 3, none⟩ = false := hfr24 3; clear hcl24 hcc24 hfr24 hM24; replace p24 := eq_true p24; replace q24 := eq_true q24; have HX33 := Aside0.mk (show Kd.R k47 47 w32 w.heap.size (fun _ => True) (.slice (some ⟨go24, 0, none⟩) t358.length co26) t358 from (zR HO360)); obtain ⟨ce33, hcl33, hM33, hcc33, hfr33⟩ := Kd.R_elem HX33.out z47 (t363 : Int) (zD) (by have h_ : (t363 : Int) < ((t358.length : Int) : Int) := zD; first | exact h_ | (have e_ := (Kd.R_reads' HO360.out).1; omega) | simpa using h_); obtain rfl := k47_openM hM33; have HP33 := Kd.R_seg HX33.out (t363 : Int) (zD) (by have h_ : (t363 : Int) < ((t358.length : Int) : Int) := zD; first | exact h_ | (have e_ := (Kd.R_reads' HO360.out).1; omega) | simpa using h_) (seg := [.int .i64 t379]) (j := 1) hcl33 hcc33 (show 2 ≤ 4 from by decide) (x' := (⟨(rd_T47 t358 t363).f0, t379, (rd_T47 t358 t363).f2, (rd_T47 t358 t363).f3⟩ : S47)) (k47_mkM _ _ _ (⟨(rd_T47 t358 t363).f0, t379, (rd_T47 t358 t363).f2, (rd_T47 t358 t363).f3⟩ : S47) ) (fun _ hk => hk); have hx33_1 := hcc33 1 _ rfl; (try simp only [show (k47).sz = 4 from rfl, Nat.mul_one, Nat.add_zero] at hx33_1); have hf33_1 := hfr33 1; (try simp only [show (k47).sz = 4 from rfl, Nat.mul_one, Nat.add_zero] at hf33_1); clear hcl33 hcc33 hfr33 hM33) | ((with_reducible refine gate_store (t := 3) (p := 30) rfl ?_); refine store_event (t := 3) (p := 30) (v := ?vo_w34) (w1 := (w32.setCell ⟨go24, (t363 : Int).toNat * 4 + 1, none⟩ (.int .i64 t379))) ?hg ?ho ?hn ?hr ?_; (case ho => rfl); (case hg => rfl); (case hn => rfl); (case hr => first | (go_simp; done) | (go_simp; rfl)); intro w34 hw; have hg : w32.grownBy w34 (some go24) := (by rw [hw]; exact HP33.2); have hp_ : Kd.R k47 47 w34 w.heap.size (fun _ => True) (.slice (some ⟨go24, 0, none⟩) t358.length co26) y382 := (by rw [hw, Ny382.out]; exact HP33.1); clear HP33; replace HI0 := Aside0.mk (IsS78.grown (spec_l4Any.zI78 HI0) hg (IsS78.own_ne HI0.out HO360.out (by decide))); replace HO378 := Aside0.mk (Kd.R_over' (v := (.slice (some ⟨go24, 0, none⟩) t358.length co26)) (zR HO378) (Kd.R_typed HO360.out) (by decide) hg); replace HB := Aside0.mk ((by rw [hw]; exact below_set (HB.out) (Nat.le_trans HL.out GB24.out) : Below w0.heap.size w0 w34)); replace HK := Aside0.mk (KeepBut.trans (zH HK) (KeepBut.of_grown hg g) (Kd.R_base2 HO360.out)); replace HO360 := Aside0.mk (hp_); clear hg hw hp_))
   go_ret
   exact ⟨_, zE, by (with_reducible repeat (first | apply Kd.R_alloc | apply Kd.R_drewN | apply Kd.R_drew)); exact HO360.out, spec_l4Any.zI78 HI0, by repeat (first | (with_reducible first | exact HB.out | apply below_alloc | apply pw_below_drewN | apply below_drew1 | refine below_set ?_ (IsS78.ge HI0.out)) | exact HB.out), zH HK⟩
  ·rw [if_neg c20] at H
   have c20b0 : (t366 == 1) = false := beq_eq_false_iff_ne.mpr c20
   have c20b1 : (t366 != 1) = true := bne_iff_ne.mpr c20
   by_cases c35 : t366 = 2
   ·rw [if_pos c35] at H
    have c35b0 : (t366 == 2) = true := beq_iff_eq.mpr c35
    have c35b1 : (t366 != 2) = false := bne_eq_false_iff_eq.mpr c35
    clear c35
    obtain ⟨y383, hy383⟩ : ∃ y_ : List Int, y_ = (([(-2), 0, 1, 5, 9223372036854775807] : List Int)) := ⟨_, rfl⟩
    replace H : ((spec_l1Int.f s0_0 t367 t368 y383).bind fun bt386 => (if 0 ≤ t363 then (if t363 < (t358.length : Int) then (some ((t358.set (t363 : Int).toNat (⟨(rd_T47 t358 t363).f0, (rd_T47 t358 t363).f1, bt386.1, (rd_T47 t358 t363).f3⟩ : S47)), bt386.2.1, bt386.2.2)) else (none)) else (none))) = some (r1, r2, r3) := by first | (rw [hy383]; with_reducible exact H) | (have H2_ := (Option.bind_some _ _).symm.trans H; rw [hy383]; with_reducible exact H2_) | (have H2_ := (Option.bind_some _ _).symm.trans H; with_reducible exact H2_) | with_reducible exact H | (rw [hy383]; exact H) | exact H
    have Ny383 := Aside0.mk hy383
    clear hy383
    replace H := Option.bind_eq_some_iff.mp H
    obtain ⟨⟨t386, t387, t388⟩, A360, H⟩ := H
    replace H : (if 0 ≤ t363 then (if t363 < (t358.length : Int) then (some ((t358.set (t363 : Int).toNat (⟨(rd_T47 t358 t363).f0, (rd_T47 t358 t363).f1, t386, (rd_T47 t358 t363).f3⟩ : S47)), t387, t388)) else (none)) else (none)) = some (r1, r2, r3) := H
    have A36 := Aside0.mk A360
    clear A360
    obtain ⟨c37, H⟩ := ifS H
    have c37b0 : decide (0 ≤ t363) = true := decide_eq_true c37
    clear c37
    obtain ⟨c38, H⟩ := ifS H
    have c38b0 : decide (t363 < (t358.length : Int)) = true := decide_eq_true c38
    clear c38
    obtain ⟨y389, hy389⟩ : ∃ y_ : List (S47), y_ = (t358.set (t363 : Int).toNat (⟨(rd_T47 t358 t363).f0, (rd_T47 t358 t363).f1, t386, (rd_T47 t358 t363).f3⟩ : S47)) := ⟨_, rfl⟩
    replace H : (some (y389, t387, t388)) = some (r1, r2, r3) := by first | (rw [hy389]; with_reducible exact H) | (have H2_ := (Option.bind_some _ _).symm.trans H; rw [hy389]; with_reducible exact H2_) | (have H2_ := (Option.bind_some _ _).symm.trans H; with_reducible exact H2_) | with_reducible exact H | (rw [hy389]; exact H) | exact H
    have Ny389 := Aside0.mk hy389
    clear hy389
    simp only [Option.some.injEq, Prod.mk.injEq] at H
    obtain ⟨rfl, rfl, rfl⟩ := H
    go_enter Try.func54, Try.ntmps54
    go_wp2_with (first | ((with_reducible refine gate_callee (f := 51) rfl ?_); refine goesL_ (some 6) rfl rfl Try.func51 (by kernel_rfl) rfl #[.pointer (some ⟨g, 0, none⟩)] rfl zG ?_; (with_reducible refine (spec_l4Draw.calls k g s0_0 s0_1 s0_2 t358 t361 t362 w0 _ ?side1 ?side2 A2.out).mono ?_); (case side1 => exact spec_l4Any.zI78 HI0); (case side2 => repeat (first | (with_reducible first | exact HB.out | apply below_alloc | apply pw_below_drewN | apply below_drew1 | refine below_set ?_ (IsS78.ge HI0.out)) | exact HB.out)); rintro e w40 ⟨v359, rfl, ho0, hi, hb, hk⟩; refine ⟨_, rfl, ?_⟩; have HO360 := Aside0.mk (Kd.R_lower ho0 (keep_size (w := w) (g := g) (row := none) (zH HK))); replace HK := Aside0.mk (KeepBut.trans (zH HK) hk (.inl rfl)); replace HB := Aside0.mk (hb); replace HI0 := Aside0.mk (hi); (try clear hb); (try clear ho0); obtain ⟨Ao41, co41, eo41⟩ := Kd.R_slice HO360.out; subst eo41) | ((with_reducible refine gate_callee (f := 53) rfl ?_); refine goesL_ (some 10) rfl rfl Try.func53 (by kernel_rfl) rfl #[.pointer (some ⟨g, 0, none⟩), .int .i64 (t358.length : Int)] rfl zG ?_; (with_reducible refine (spec_l1Below.calls g s0_0 t361 t362 (t358.length : Int) t363 t364 t365 w0 _ ?side1 ?side2 A3.out).mono ?_); (case side1 => exact spec_l4Any.zI78 HI0); (case side2 => repeat (first | (with_reducible first | exact HB.out | apply below_alloc | apply pw_below_drewN | apply below_drew1 | refine below_set ?_ (IsS78.ge HI0.out)) | exact HB.out)); rintro e w42 ⟨rfl, hi, hb, hk⟩; refine ⟨_, rfl, ?_⟩; replace HO360 := Aside0.mk (Kd.R_mono (Kd.R_keep (IsS78.apart (show IsS78 w0 _ g s0_0 t361 t362 from spec_l4Any.zI78 HI0) (zR HO360) (by decide)) hk (fun _ h => h.2)) (fun _ h => h.1)); replace HK := Aside0.mk (KeepBut.trans (zH HK) hk (.inl rfl)); replace HB := Aside0.mk (hb); replace HI0 := Aside0.mk (hi); (try clear hb)) | ((with_reducible refine gate_callee (f := 53) rfl ?_); refine goesL_ (some 12) rfl rfl Try.func53 (by kernel_rfl) rfl #[.pointer (some ⟨g, 0, none⟩), .int .i64 12] rfl zG ?_; (with_reducible refine (spec_l1Below.calls g s0_0 t364 t365 12 t366 t367 t368 w0 _ ?side1 ?side2 A4.out).mono ?_); (case side1 => exact spec_l4Any.zI78 HI0); (case side2 => repeat (first | (with_reducible first | exact HB.out | apply below_alloc | apply pw_below_drewN | apply below_drew1 | refine below_set ?_ (IsS78.ge HI0.out)) | exact HB.out)); rintro e w43 ⟨rfl, hi, hb, hk⟩; refine ⟨_, rfl, ?_⟩; replace HO360 := Aside0.mk (Kd.R_mono (Kd.R_keep (IsS78.apart (show IsS78 w0 _ g s0_0 t364 t365 from spec_l4Any.zI78 HI0) (zR HO360) (by decide)) hk (fun _ h => h.2)) (fun _ h => h.1)); replace HK := Aside0.mk (KeepBut.trans (zH HK) hk (.inl rfl)); replace HB := Aside0.mk (hb); replace HI0 := Aside0.mk (hi); (try clear hb)) | ((with_reducible refine gate_dst (N := 36) rfl ?_); refine Kd.R_lit (Kd.int .i64) _ 3 ?hg (N := 36) ?hd (xs := ([(-2), 0, 1, 5, 9223372036854775807] : List Int)) (inner := [.int .i64 (-2), .int .i64 0, .int .i64 1, .int .i64 5, .int .i64 9223372036854775807]) (ok := fun _ => True) (okp := fun _ => True) ?hr ?hp (fun _ hk => hk) trivial (Below.refl _ _) (Nat.le_refl _) (by simp) ?_; (case hd => rfl); (case hg => rfl); (case hr => first | (go_simp; done) | (go_simp; rfl)); (case hp => exact (Reps.one (show Kd.M (Kd.int .i64) _ _ _ (-2) [.int .i64 (-2)] from rfl) (Reps.one (show Kd.M (Kd.int .i64) _ _ _ 0 [.int .i64 0] from rfl) (Reps.one (show Kd.M (Kd.int .i64) _ _ _ 1 [.int .i64 1] from rfl) (Reps.one (show Kd.M (Kd.int .i64) _ _ _ 5 [.int .i64 5] from rfl) (Reps.one (show Kd.M (Kd.int .i64) _ _ _ 9223372036854775807 [.int .i64 9223372036854775807] from rfl) (Reps.none _ _))))))); intro v384 w44 ho45 hb hg_ hnew_; clear hg_ hnew_; (first | rw [← Ny383.out] at ho45 | (simp only [Int.reduceToNat] at ho45; rw [← Ny383.out] at ho45)); replace HO360 := Aside0.mk (Kd.R_below (zR HO360) hb); have HO385 := Aside0.mk (Kd.R_lower ho45 (keep_size (w := w) (g := g) (row := none) (zH HK))); replace HK := Aside0.mk (KeepBut.trans (zH HK) (KeepBut.of_below hb g none) (.inl rfl)); replace HB := Aside0.mk (below_step (by repeat (first | (with_reducible first | exact HB.out | apply below_alloc | apply pw_below_drewN | apply below_drew1 | refine below_set ?_ (IsS78.ge HI0.out)) | exact HB.out)) hb); replace HI0 := Aside0.mk (IsS78.below (spec_l4Any.zI78 HI0) hb); clear hb ho45; obtain ⟨Ao46, co46, eo46⟩ := Kd.R_slice HO385.out; subst eo46) | ((with_reducible refine gate_callee (f := 68) rfl ?_); refine goesL_ (some 37) rfl rfl Try.func68 (by kernel_rfl) rfl #[.pointer (some ⟨g, 0, none⟩), .slice Ao46 y383.length co46] rfl zG ?_; (with_reducible refine (spec_l1Int.calls g s0_0 t367 t368 _ _ y383 t386 t387 t388 w0 _ ?side1 ?side2 ?side3 ?side4 ?side5 A36.out).mono ?_); (case side1 => exact spec_l4Any.zI78 HI0); (case side2 => repeat (first | (with_reducible first | exact HB.out | apply below_alloc | apply pw_below_drewN | apply below_drew1 | refine below_set ?_ (IsS78.ge HI0.out)) | exact HB.out)); (case side3 => repeat (first | exact (Kd.R_reads' HO385.out).2.2 | (with_reducible refine Kd.C_alloc ?_ _) | (with_reducible refine Kd.C_drewN ?_ _) | (with_reducible refine Kd.C_drew ?_))); (case side4 => exact (Kd.R_reads' HO385.out).2.1); (case side5 => exact far_slice (IsS78.own_ne HI0.out HO385.out (by decide))); rintro e w47 ⟨rfl, hi, hb, hk⟩; refine ⟨_, rfl, ?_⟩; replace HO360 := Aside0.mk (Kd.R_mono (Kd.R_keep (IsS78.apart (show IsS78 w0 _ g s0_0 t367 t368 from spec_l4Any.zI78 HI0) (zR HO360) (by decide)) hk (fun _ h => h.2)) (fun _ h => h.1)); replace HO385 := Aside0.mk (Kd.R_mono (Kd.R_keep (IsS78.apart (show IsS78 w0 _ g s0_0 t367 t368 from spec_l4Any.zI78 HI0) (zR HO385) (by decide)) hk (fun _ h => h.2)) (fun _ h => h.1)); replace HK := Aside0.mk (KeepBut.trans (zH HK) hk (.inl rfl)); replace HB := Aside0.mk (hb); replace HI0 := Aside0.mk (hi); (try clear hb); have p39 : 0 ≤ (t363 : Int) := zD; have q39 : (t363 : Int) < ((t358.length : Int) : Int) := zD; obtain ⟨go39, co39, eo39, gb39, gl39, cl39, HG39⟩ := Kd.R_form HO360.out (by omega); (first | cases eo39 | (injection eo39 with ea_ en_ ec_; (first | subst ea_ | (injection ea_ with ea_; subst ea_)); subst ec_; clear en_)); have GB39 := Aside0.mk gb39; have GG39 := Aside0.mk HG39; clear gb39 gl39 HG39; obtain ⟨ce39, hcl39, hM39, hcc39, hfr39⟩ := Kd.R_elem HO360.out z47 (t363 : Int) p39 q39; obtain rfl := k47_openM hM39; have hx39_0 : w47.cell? ⟨go39, (t363 : Int).toNat * 4, none⟩ = some (.int .i64 ((rd_T47 t358 t363).f0)) := hcc39 0 _ rfl; have hx39_1 : w47.cell? ⟨go39, (t363 : Int).toNat * 4 + 1, none⟩ = some (.int .i64 ((rd_T47 t358 t363).f1)) := hcc39 1 _ rfl; have hx39_2 : w47.cell? ⟨go39, (t363 : Int).toNat * 4 + 2, none⟩ = some (.int .i64 ((rd_T47 t358 t363).f2)) := hcc39 2 _ rfl; have hx39_3 : w47.cell? ⟨go39, (t363 : Int).toNat * 4 + 3, none⟩ = some (.int .i64 ((rd_T47 t358 t363).f3)) := hcc39 3 _ rfl; have hf39_0 : w47.frozen? ⟨go39, (t363 : Int).toNat * 4, none⟩ = false := hfr39 0; have hf39_1 : w47.frozen? ⟨go39, (t363 : Int).toNat * 4 + 1, none⟩ = false := hfr39 1; have hf39_2 : w47.frozen? ⟨go39, (t363 : Int).toNat * 4 + 2, none⟩ = false := hfr39 2; have hf39_3 : w47.frozen? ⟨go39, (t363 : Int).toNat * 4 + 3, none⟩ = false := hfr39 3; clear hcl39 hcc39 hfr39 hM39; replace p39 := eq_true p39; replace q39 := eq_true q39; have HX48 := Aside0.mk (show Kd.R k47 47 w47 w.heap.size (fun _ => True) (.slice (some ⟨go39, 0, none⟩) t358.length co41) t358 from (zR HO360)); obtain ⟨ce48, hcl48, hM48, hcc48, hfr48⟩ := Kd.R_elem HX48.out z47 (t363 : Int) (zD) (by have h_ : (t363 : Int) < ((t358.length : Int) : Int) := zD; first | exact h_ | (have e_ := (Kd.R_reads' HO360.out).1; omega) | simpa using h_); obtain rfl := k47_openM hM48; have HP48 := Kd.R_seg HX48.out (t363 : Int) (zD) (by have h_ : (t363 : Int) < ((t358.length : Int) : Int) := zD; first | exact h_ | (have e_ := (Kd.R_reads' HO360.out).1; omega) | simpa using h_) (seg := [.int .i64 t386]) (j := 2) hcl48 hcc48 (show 3 ≤ 4 from by decide) (x' := (⟨(rd_T47 t358 t363).f0, (rd_T47 t358 t363).f1, t386, (rd_T47 t358 t363).f3⟩ : S47)) (k47_mkM _ _ _ (⟨(rd_T47 t358 t363).f0, (rd_T47 t358 t363).f1, t386, (rd_T47 t358 t363).f3⟩ : S47) ) (fun _ hk => hk); have hx48_2 := hcc48 2 _ rfl; (try simp only [show (k47).sz = 4 from rfl, Nat.mul_one, Nat.add_zero] at hx48_2); have hf48_2 := hfr48 2; (try simp only [show (k47).sz = 4 from rfl, Nat.mul_one, Nat.add_zero] at hf48_2); clear hcl48 hcc48 hfr48 hM48) | ((with_reducible refine gate_store (t := 3) (p := 39) rfl ?_); refine store_event (t := 3) (p := 39) (v := ?vo_w49) (w1 := (w47.setCell ⟨go39, (t363 : Int).toNat * 4 + 2, none⟩ (.int .i64 t386))) ?hg ?ho ?hn ?hr ?_; (case ho => rfl); (case hg => rfl); (case hn => rfl); (case hr => first | (go_simp; done) | (go_simp; rfl)); intro w49 hw; have hg : w47.grownBy w49 (some go39) := (by rw [hw]; exact HP48.2); have hp_ : Kd.R k47 47 w49 w.heap.size (fun _ => True) (.slice (some ⟨go39, 0, none⟩) t358.length co41) y389 := (by rw [hw, Ny389.out]; exact HP48.1); clear HP48; replace HI0 := Aside0.mk (IsS78.grown (spec_l4Any.zI78 HI0) hg (IsS78.own_ne HI0.out HO360.out (by decide))); replace HO385 := Aside0.mk (Kd.R_over' (v := (.slice (some ⟨go39, 0, none⟩) t358.length co41)) (zR HO385) (Kd.R_typed HO360.out) (by decide) hg); replace HB := Aside0.mk ((by rw [hw]; exact below_set (HB.out) (Nat.le_trans HL.out GB39.out) : Below w0.heap.size w0 w49)); replace HK := Aside0.mk (KeepBut.trans (zH HK) (KeepBut.of_grown hg g) (Kd.R_base2 HO360.out)); replace HO360 := Aside0.mk (hp_); clear hg hw hp_))
    go_ret
    exact ⟨_, zE, by (with_reducible repeat (first | apply Kd.R_alloc | apply Kd.R_drewN | apply Kd.R_drew)); exact HO360.out, spec_l4Any.zI78 HI0, by repeat (first | (with_reducible first | exact HB.out | apply below_alloc | apply pw_below_drewN | apply below_drew1 | refine below_set ?_ (IsS78.ge HI0.out)) | exact HB.out), zH HK⟩
   ·rw [if_neg c35] at H
    have c35b0 : (t366 == 2) = false := beq_eq_false_iff_ne.mpr c35
    have c35b1 : (t366 != 2) = true := bne_iff_ne.mpr c35
    by_cases c50 : t366 = 3
    ·rw [if_pos c50] at H
     have c50b0 : (t366 == 3) = true := beq_iff_eq.mpr c50
     have c50b1 : (t366 != 3) = false := bne_eq_false_iff_eq.mpr c50
     clear c50
     obtain ⟨y390, hy390⟩ : ∃ y_ : List Int, y_ = (([(-1), 1, 10] : List Int)) := ⟨_, rfl⟩
     replace H : ((spec_l1Int.f s0_0 t367 t368 y390).bind fun bt393 => (if 0 ≤ t363 then (if t363 < (t358.length : Int) then (some ((t358.set (t363 : Int).toNat (⟨(rd_T47 t358 t363).f0, (rd_T47 t358 t363).f1, (rd_T47 t358 t363).f2, bt393.1⟩ : S47)), bt393.2.1, bt393.2.2)) else (none)) else (none))) = some (r1, r2, r3) := by first | (rw [hy390]; with_reducible exact H) | (have H2_ := (Option.bind_some _ _).symm.trans H; rw [hy390]; with_reducible exact H2_) | (have H2_ := (Option.bind_some _ _).symm.trans H; with_reducible exact H2_) | with_reducible exact H | (rw [hy390]; exact H) | exact H
     have Ny390 := Aside0.mk hy390
     clear hy390
     replace H := Option.bind_eq_some_iff.mp H
     obtain ⟨⟨t393, t394, t395⟩, A510, H⟩ := H
     replace H : (if 0 ≤ t363 then (if t363 < (t358.length : Int) then (some ((t358.set (t363 : Int).toNat (⟨(rd_T47 t358 t363).f0, (rd_T47 t358 t363).f1, (rd_T47 t358 t363).f2, t393⟩ : S47)), t394, t395)) else (none)) else (none)) = some (r1, r2, r3) := H
     have A51 := Aside0.mk A510
     clear A510
     obtain ⟨c52, H⟩ := ifS H
     have c52b0 : decide (0 ≤ t363) = true := decide_eq_true c52
     clear c52
     obtain ⟨c53, H⟩ := ifS H
     have c53b0 : decide (t363 < (t358.length : Int)) = true := decide_eq_true c53
     clear c53
     obtain ⟨y396, hy396⟩ : ∃ y_ : List (S47), y_ = (t358.set (t363 : Int).toNat (⟨(rd_T47 t358 t363).f0, (rd_T47 t358 t363).f1, (rd_T47 t358 t363).f2, t393⟩ : S47)) := ⟨_, rfl⟩
     replace H : (some (y396, t394, t395)) = some (r1, r2, r3) := by first | (rw [hy396]; with_reducible exact H) | (have H2_ := (Option.bind_some _ _).symm.trans H; rw [hy396]; with_reducible exact H2_) | (have H2_ := (Option.bind_some _ _).symm.trans H; with_reducible exact H2_) | with_reducible exact H | (rw [hy396]; exact H) | exact H
     have Ny396 := Aside0.mk hy396
     clear hy396
     simp only [Option.some.injEq, Prod.mk.injEq] at H
     obtain ⟨rfl, rfl, rfl⟩ := H
     go_enter Try.func54, Try.ntmps54
     go_wp2_with (first | ((with_reducible refine gate_callee (f := 51) rfl ?_); refine goesL_ (some 6) rfl rfl Try.func51 (by kernel_rfl) rfl #[.pointer (some ⟨g, 0, none⟩)] rfl zG ?_; (with_reducible refine (spec_l4Draw.calls k g s0_0 s0_1 s0_2 t358 t361 t362 w0 _ ?side1 ?side2 A2.out).mono ?_); (case side1 => exact spec_l4Any.zI78 HI0); (case side2 => repeat (first | (with_reducible first | exact HB.out | apply below_alloc | apply pw_below_drewN | apply below_drew1 | refine below_set ?_ (IsS78.ge HI0.out)) | exact HB.out)); rintro e w55 ⟨v359, rfl, ho0, hi, hb, hk⟩; refine ⟨_, rfl, ?_⟩; have HO360 := Aside0.mk (Kd.R_lower ho0 (keep_size (w := w) (g := g) (row := none) (zH HK))); replace HK := Aside0.mk (KeepBut.trans (zH HK) hk (.inl rfl)); replace HB := Aside0.mk (hb); replace HI0 := Aside0.mk (hi); (try clear hb); (try clear ho0); obtain ⟨Ao56, co56, eo56⟩ := Kd.R_slice HO360.out; subst eo56) | ((with_reducible refine gate_callee (f := 53) rfl ?_); refine goesL_ (some 10) rfl rfl Try.func53 (by kernel_rfl) rfl #[.pointer (some ⟨g, 0, none⟩), .int .i64 (t358.length : Int)] rfl zG ?_; (with_reducible refine (spec_l1Below.calls g s0_0 t361 t362 (t358.length : Int) t363 t364 t365 w0 _ ?side1 ?side2 A3.out).mono ?_); (case side1 => exact spec_l4Any.zI78 HI0); (case side2 => repeat (first | (with_reducible first | exact HB.out | apply below_alloc | apply pw_below_drewN | apply below_drew1 | refine below_set ?_ (IsS78.ge HI0.out)) | exact HB.out)); rintro e w57 ⟨rfl, hi, hb, hk⟩; refine ⟨_, rfl, ?_⟩; replace HO360 := Aside0.mk (Kd.R_mono (Kd.R_keep (IsS78.apart (show IsS78 w0 _ g s0_0 t361 t362 from spec_l4Any.zI78 HI0) (zR HO360) (by decide)) hk (fun _ h => h.2)) (fun _ h => h.1)); replace HK := Aside0.mk (KeepBut.trans (zH HK) hk (.inl rfl)); replace HB := Aside0.mk (hb); replace HI0 := Aside0.mk (hi); (try clear hb)) | ((with_reducible refine gate_callee (f := 53) rfl ?_); refine goesL_ (some 12) rfl rfl Try.func53 (by kernel_rfl) rfl #[.pointer (some ⟨g, 0, none⟩), .int .i64 12] rfl zG ?_; (with_reducible refine (spec_l1Below.calls g s0_0 t364 t365 12 t366 t367 t368 w0 _ ?side1 ?side2 A4.out).mono ?_); (case side1 => exact spec_l4Any.zI78 HI0); (case side2 => repeat (first | (with_reducible first | exact HB.out | apply below_alloc | apply pw_below_drewN | apply below_drew1 | refine below_set ?_ (IsS78.ge HI0.out)) | exact HB.out)); rintro e w58 ⟨rfl, hi, hb, hk⟩; refine ⟨_, rfl, ?_⟩; replace HO360 := Aside0.mk (Kd.R_mono (Kd.R_keep (IsS78.apart (show IsS78 w0 _ g s0_0 t364 t365 from spec_l4Any.zI78 HI0) (zR HO360) (by decide)) hk (fun _ h => h.2)) (fun _ h => h.1)); replace HK := Aside0.mk (KeepBut.trans (zH HK) hk (.inl rfl)); replace HB := Aside0.mk (hb); replace HI0 := Aside0.mk (hi); (try clear hb)) | ((with_reducible refine gate_dst (N := 45) rfl ?_); refine Kd.R_lit (Kd.int .i64) _ 3 ?hg (N := 45) ?hd (xs := ([(-1), 1, 10] : List Int)) (inner := [.int .i64 (-1), .int .i64 1, .int .i64 10]) (ok := fun _ => True) (okp := fun _ => True) ?hr ?hp (fun _ hk => hk) trivial (Below.refl _ _) (Nat.le_refl _) (by simp) ?_; (case hd => rfl); (case hg => rfl); (case hr => first | (go_simp; done) | (go_simp; rfl)); (case hp => exact (Reps.one (show Kd.M (Kd.int .i64) _ _ _ (-1) [.int .i64 (-1)] from rfl) (Reps.one (show Kd.M (Kd.int .i64) _ _ _ 1 [.int .i64 1] from rfl) (Reps.one (show Kd.M (Kd.int .i64) _ _ _ 10 [.int .i64 10] from rfl) (Reps.none _ _))))); intro v391 w59 ho60 hb hg_ hnew_; clear hg_ hnew_; (first | rw [← Ny390.out] at ho60 | (simp only [Int.reduceToNat] at ho60; rw [← Ny390.out] at ho60)); replace HO360 := Aside0.mk (Kd.R_below (zR HO360) hb); have HO392 := Aside0.mk (Kd.R_lower ho60 (keep_size (w := w) (g := g) (row := none) (zH HK))); replace HK := Aside0.mk (KeepBut.trans (zH HK) (KeepBut.of_below hb g none) (.inl rfl)); replace HB := Aside0.mk (below_step (by repeat (first | (with_reducible first | exact HB.out | apply below_alloc | apply pw_below_drewN | apply below_drew1 | refine below_set ?_ (IsS78.ge HI0.out)) | exact HB.out)) hb); replace HI0 := Aside0.mk (IsS78.below (spec_l4Any.zI78 HI0) hb); clear hb ho60; obtain ⟨Ao61, co61, eo61⟩ := Kd.R_slice HO392.out; subst eo61) | ((with_reducible refine gate_callee (f := 68) rfl ?_); refine goesL_ (some 46) rfl rfl Try.func68 (by kernel_rfl) rfl #[.pointer (some ⟨g, 0, none⟩), .slice Ao61 y390.length co61] rfl zG ?_; (with_reducible refine (spec_l1Int.calls g s0_0 t367 t368 _ _ y390 t393 t394 t395 w0 _ ?side1 ?side2 ?side3 ?side4 ?side5 A51.out).mono ?_); (case side1 => exact spec_l4Any.zI78 HI0); (case side2 => repeat (first | (with_reducible first | exact HB.out | apply below_alloc | apply pw_below_drewN | apply below_drew1 | refine below_set ?_ (IsS78.ge HI0.out)) | exact HB.out)); (case side3 => repeat (first | exact (Kd.R_reads' HO392.out).2.2 | (with_reducible refine Kd.C_alloc ?_ _) | (with_reducible refine Kd.C_drewN ?_ _) | (with_reducible refine Kd.C_drew ?_))); (case side4 => exact (Kd.R_reads' HO392.out).2.1); (case side5 => exact far_slice (IsS78.own_ne HI0.out HO392.out (by decide))); rintro e w62 ⟨rfl, hi, hb, hk⟩; refine ⟨_, rfl, ?_⟩; replace HO360 := Aside0.mk (Kd.R_mono (Kd.R_keep (IsS78.apart (show IsS78 w0 _ g s0_0 t367 t368 from spec_l4Any.zI78 HI0) (zR HO360) (by decide)) hk (fun _ h => h.2)) (fun _ h => h.1)); replace HO392 := Aside0.mk (Kd.R_mono (Kd.R_keep (IsS78.apart (show IsS78 w0 _ g s0_0 t367 t368 from spec_l4Any.zI78 HI0) (zR HO392) (by decide)) hk (fun _ h => h.2)) (fun _ h => h.1)); replace HK := Aside0.mk (KeepBut.trans (zH HK) hk (.inl rfl)); replace HB := Aside0.mk (hb); replace HI0 := Aside0.mk (hi); (try clear hb); have p54 : 0 ≤ (t363 : Int) := zD; have q54 : (t363 : Int) < ((t358.length : Int) : Int) := zD; obtain ⟨go54, co54, eo54, gb54, gl54, cl54, HG54⟩ := Kd.R_form HO360.out (by omega); (first | cases eo54 | (injection eo54 with ea_ en_ ec_; (first | subst ea_ | (injection ea_ with ea_; subst ea_)); subst ec_; clear en_)); have GB54 := Aside0.mk gb54; have GG54 := Aside0.mk HG54; clear gb54 gl54 HG54; obtain ⟨ce54, hcl54, hM54, hcc54, hfr54⟩ := Kd.R_elem HO360.out z47 (t363 : Int) p54 q54; obtain rfl := k47_openM hM54; have hx54_0 : w62.cell? ⟨go54, (t363 : Int).toNat * 4, none⟩ = some (.int .i64 ((rd_T47 t358 t363).f0)) := hcc54 0 _ rfl; have hx54_1 : w62.cell? ⟨go54, (t363 : Int).toNat * 4 + 1, none⟩ = some (.int .i64 ((rd_T47 t358 t363).f1)) := hcc54 1 _ rfl; have hx54_2 : w62.cell? ⟨go54, (t363 : Int).toNat * 4 + 2, none⟩ = some (.int .i64 ((rd_T47 t358 t363).f2)) := hcc54 2 _ rfl; have hx54_3 : w62.cell? ⟨go54, (t363 : Int).toNat * 4 + 3, none⟩ = some (.int .i64 ((rd_T47 t358 t363).f3)) := hcc54 3 _ rfl; have hf54_0 : w62.frozen? ⟨go54, (t363 : Int).toNat * 4, none⟩ = false := hfr54 0; have hf54_1 : w62.frozen? ⟨go54, (t363 : Int).toNat * 4 + 1, none⟩ = false := hfr54 1; have hf54_2 : w62.frozen? ⟨go54, (t363 : Int).toNat * 4 + 2, none⟩ = false := hfr54 2; have hf54_3 : w62.frozen? ⟨go54, (t363 : Int).toNat * 4 + 3, none⟩ = false := hfr54 3; clear hcl54 hcc54 hfr54 hM54; replace p54 := eq_true p54; replace q54 := eq_true q54; have HX63 := Aside0.mk (show Kd.R k47 47 w62 w.heap.size (fun _ => True) (.slice (some ⟨go54, 0, none⟩) t358.length co56) t358 from (zR HO360)); obtain ⟨ce63, hcl63, hM63, hcc63, hfr63⟩ := Kd.R_elem HX63.out z47 (t363 : Int) (zD) (by have h_ : (t363 : Int) < ((t358.length : Int) : Int) := zD; first | exact h_ | (have e_ := (Kd.R_reads' HO360.out).1; omega) | simpa using h_); obtain rfl := k47_openM hM63; have HP63 := Kd.R_seg HX63.out (t363 : Int) (zD) (by have h_ : (t363 : Int) < ((t358.length : Int) : Int) := zD; first | exact h_ | (have e_ := (Kd.R_reads' HO360.out).1; omega) | simpa using h_) (seg := [.int .i64 t393]) (j := 3) hcl63 hcc63 (show 4 ≤ 4 from by decide) (x' := (⟨(rd_T47 t358 t363).f0, (rd_T47 t358 t363).f1, (rd_T47 t358 t363).f2, t393⟩ : S47)) (k47_mkM _ _ _ (⟨(rd_T47 t358 t363).f0, (rd_T47 t358 t363).f1, (rd_T47 t358 t363).f2, t393⟩ : S47) ) (fun _ hk => hk); have hx63_3 := hcc63 3 _ rfl; (try simp only [show (k47).sz = 4 from rfl, Nat.mul_one, Nat.add_zero] at hx63_3); have hf63_3 := hfr63 3; (try simp only [show (k47).sz = 4 from rfl, Nat.mul_one, Nat.add_zero] at hf63_3); clear hcl63 hcc63 hfr63 hM63) | ((with_reducible refine gate_store (t := 3) (p := 48) rfl ?_); refine store_event (t := 3) (p := 48) (v := ?vo_w64) (w1 := (w62.setCell ⟨go54, (t363 : Int).toNat * 4 + 3, none⟩ (.int .i64 t393))) ?hg ?ho ?hn ?hr ?_; (case ho => rfl); (case hg => rfl); (case hn => rfl); (case hr => first | (go_simp; done) | (go_simp; rfl)); intro w64 hw; have hg : w62.grownBy w64 (some go54) := (by rw [hw]; exact HP63.2); have hp_ : Kd.R k47 47 w64 w.heap.size (fun _ => True) (.slice (some ⟨go54, 0, none⟩) t358.length co56) y396 := (by rw [hw, Ny396.out]; exact HP63.1); clear HP63; replace HI0 := Aside0.mk (IsS78.grown (spec_l4Any.zI78 HI0) hg (IsS78.own_ne HI0.out HO360.out (by decide))); replace HO392 := Aside0.mk (Kd.R_over' (v := (.slice (some ⟨go54, 0, none⟩) t358.length co56)) (zR HO392) (Kd.R_typed HO360.out) (by decide) hg); replace HB := Aside0.mk ((by rw [hw]; exact below_set (HB.out) (Nat.le_trans HL.out GB54.out) : Below w0.heap.size w0 w64)); replace HK := Aside0.mk (KeepBut.trans (zH HK) (KeepBut.of_grown hg g) (Kd.R_base2 HO360.out)); replace HO360 := Aside0.mk (hp_); clear hg hw hp_))
     go_ret
     exact ⟨_, zE, by (with_reducible repeat (first | apply Kd.R_alloc | apply Kd.R_drewN | apply Kd.R_drew)); exact HO360.out, spec_l4Any.zI78 HI0, by repeat (first | (with_reducible first | exact HB.out | apply below_alloc | apply pw_below_drewN | apply below_drew1 | refine below_set ?_ (IsS78.ge HI0.out)) | exact HB.out), zH HK⟩
    ·rw [if_neg c50] at H
     have c50b0 : (t366 == 3) = false := beq_eq_false_iff_ne.mpr c50
     have c50b1 : (t366 != 3) = true := bne_iff_ne.mpr c50
     by_cases c65 : t366 = 4
     ·rw [if_pos c65] at H
      have c65b0 : (t366 == 4) = true := beq_iff_eq.mpr c65
      have c65b1 : (t366 != 4) = false := bne_eq_false_iff_eq.mpr c65
      clear c65
      have H' := Aside0.mk H
      clear H
      go_enter Try.func54, Try.ntmps54
      go_wp2_with (first | ((with_reducible refine gate_callee (f := 51) rfl ?_); refine goesL_ (some 6) rfl rfl Try.func51 (by kernel_rfl) rfl #[.pointer (some ⟨g, 0, none⟩)] rfl zG ?_; (with_reducible refine (spec_l4Draw.calls k g s0_0 s0_1 s0_2 t358 t361 t362 w0 _ ?side1 ?side2 A2.out).mono ?_); (case side1 => exact spec_l4Any.zI78 HI0); (case side2 => repeat (first | (with_reducible first | exact HB.out | apply below_alloc | apply pw_below_drewN | apply below_drew1 | refine below_set ?_ (IsS78.ge HI0.out)) | exact HB.out)); rintro e w66 ⟨v359, rfl, ho0, hi, hb, hk⟩; refine ⟨_, rfl, ?_⟩; have HO360 := Aside0.mk (Kd.R_lower ho0 (keep_size (w := w) (g := g) (row := none) (zH HK))); replace HK := Aside0.mk (KeepBut.trans (zH HK) hk (.inl rfl)); replace HB := Aside0.mk (hb); replace HI0 := Aside0.mk (hi); (try clear hb); (try clear ho0); obtain ⟨Ao67, co67, eo67⟩ := Kd.R_slice HO360.out; subst eo67) | ((with_reducible refine gate_callee (f := 53) rfl ?_); refine goesL_ (some 10) rfl rfl Try.func53 (by kernel_rfl) rfl #[.pointer (some ⟨g, 0, none⟩), .int .i64 (t358.length : Int)] rfl zG ?_; (with_reducible refine (spec_l1Below.calls g s0_0 t361 t362 (t358.length : Int) t363 t364 t365 w0 _ ?side1 ?side2 A3.out).mono ?_); (case side1 => exact spec_l4Any.zI78 HI0); (case side2 => repeat (first | (with_reducible first | exact HB.out | apply below_alloc | apply pw_below_drewN | apply below_drew1 | refine below_set ?_ (IsS78.ge HI0.out)) | exact HB.out)); rintro e w68 ⟨rfl, hi, hb, hk⟩; refine ⟨_, rfl, ?_⟩; replace HO360 := Aside0.mk (Kd.R_mono (Kd.R_keep (IsS78.apart (show IsS78 w0 _ g s0_0 t361 t362 from spec_l4Any.zI78 HI0) (zR HO360) (by decide)) hk (fun _ h => h.2)) (fun _ h => h.1)); replace HK := Aside0.mk (KeepBut.trans (zH HK) hk (.inl rfl)); replace HB := Aside0.mk (hb); replace HI0 := Aside0.mk (hi); (try clear hb)) | ((with_reducible refine gate_callee (f := 53) rfl ?_); refine goesL_ (some 12) rfl rfl Try.func53 (by kernel_rfl) rfl #[.pointer (some ⟨g, 0, none⟩), .int .i64 12] rfl zG ?_; (with_reducible refine (spec_l1Below.calls g s0_0 t364 t365 12 t366 t367 t368 w0 _ ?side1 ?side2 A4.out).mono ?_); (case side1 => exact spec_l4Any.zI78 HI0); (case side2 => repeat (first | (with_reducible first | exact HB.out | apply below_alloc | apply pw_below_drewN | apply below_drew1 | refine below_set ?_ (IsS78.ge HI0.out)) | exact HB.out)); rintro e w69 ⟨rfl, hi, hb, hk⟩; refine ⟨_, rfl, ?_⟩; replace HO360 := Aside0.mk (Kd.R_mono (Kd.R_keep (IsS78.apart (show IsS78 w0 _ g s0_0 t364 t365 from spec_l4Any.zI78 HI0) (zR HO360) (by decide)) hk (fun _ h => h.2)) (fun _ h => h.1)); replace HK := Aside0.mk (KeepBut.trans (zH HK) hk (.inl rfl)); replace HB := Aside0.mk (hb); replace HI0 := Aside0.mk (hi); (try clear hb)))
      go_loopg [3] k (fun kq v3 w' => ∃ (x3_1 : List (S47)), Aside0 (spec_l4Any.l0 kq x3_1 s0_0 t367 t368 = some (r1, r2, r3)) ∧ Aside0 (kq ≤ k) ∧ Aside0 (Kd.R k47 47 w' w.heap.size (fun _ => True) v3 x3_1) ∧ Aside0 (IsS78 w0 w' g s0_0 t367 t368) ∧ Aside0 (KeepBut w w' g none) ∧ Aside0 (Below w0.heap.size w0 w'))
      case atStart => exact ⟨(t358), H', ⟨Nat.le_refl _⟩, ⟨zR HO360⟩, ⟨spec_l4Any.zI78 HI0⟩, ⟨zH HK⟩, ⟨by repeat (first | (with_reducible first | exact HB.out | apply below_alloc | apply pw_below_drewN | apply below_drew1 | refine below_set ?_ (IsS78.ge HI0.out)) | exact HB.out)⟩⟩
      case round =>
       clear H'
       try clear c1
       try clear hx1
       try clear hf1
       try clear c2
       try clear p2
       try clear q2
       try clear hx2
       try clear hf2
       try clear c3
       try clear p3
       try clear q3
       try clear hx3
       try clear hf3
       try clear c4
       try clear hx4
       try clear hf4
       try clear c5
       try clear c5b0
       try clear c5b1
       try clear p5
       try clear q5
       try clear hx5
       try clear hf5
       try clear c6
       try clear hx6
       try clear hf6
       try clear c7
       try clear c7b0
       try clear c8
       try clear c8b0
       try clear c9
       try clear p9
       try clear q9
       try clear hx9
       try clear hf9
       try clear c18
       try clear hx18
       try clear hf18
       try clear c20
       try clear c20b0
       try clear c20b1
       try clear c22
       try clear c22b0
       try clear c23
       try clear c23b0
       try clear c24
       try clear p24
       try clear q24
       try clear hx24
       try clear hf24
       try clear c33
       try clear hx33
       try clear hf33
       try clear c35
       try clear c35b0
       try clear c35b1
       try clear c37
       try clear c37b0
       try clear c38
       try clear c38b0
       try clear c39
       try clear p39
       try clear q39
       try clear hx39
       try clear hf39
       try clear c48
       try clear hx48
       try clear hf48
       try clear c50
       try clear c50b0
       try clear c50b1
       try clear c51
       try clear c52
       try clear c52b0
       try clear c53
       try clear c53b0
       try clear c54
       try clear p54
       try clear q54
       try clear hx54
       try clear hf54
       try clear c63
       try clear hx63
       try clear hf63
       try clear c65
       try clear c65b0
       try clear c65b1
       try clear c68
       try clear hx18_0
       try clear hx24_0
       try clear hx24_1
       try clear hx24_2
       try clear hx24_3
       try clear hx33_1
       try clear hx39_0
       try clear hx39_1
       try clear hx39_2
       try clear hx39_3
       try clear hx48_2
       try clear hx54_0
       try clear hx54_1
       try clear hx54_2
       try clear hx54_3
       try clear hx63_3
       try clear hx9_0
       try clear hx9_1
       try clear hx9_2
       try clear hx9_3
       try clear p24
       try clear p39
       try clear p54
       try clear p9
       try clear q24
       try clear q39
       try clear q54
       try clear q9
       obtain ⟨x3_1, HA, HK1, HO_3, HI0, HK, HB⟩ := hrel
       cases gk with
       | zero => exact absurd HA.out (by simp [spec_l4Any.l0])
       | succ k1 =>
        have H := HA.out
        clear HA
        simp only [spec_l4Any.l0] at H
        by_cases c70 : (x3_1.length : Int) < 7
        ·rw [if_pos c70] at H
         have c70b0 : decide ((x3_1.length : Int) < 7) = true := decide_eq_true c70
         have c70b1 : decide (x3_1.length < 7) = true := decide_eq_true (by omega)
         clear c70
         obtain ⟨c71, H⟩ := ifS H
         have c71b0 : decide (0 < (x3_1.length : Int)) = true := decide_eq_true c71
         have c71b1 : decide (0 < x3_1.length) = true := decide_eq_true (by omega)
         clear c71
         obtain ⟨c72, H⟩ := ifS H
         have LMc72 := Aside0.mk c72
         clear c72
         obtain ⟨y398, hy398⟩ : ∃ y_ : List (S47), y_ = (x3_1 ++ [(⟨(rd_T47 x3_1 0).f0, (rd_T47 x3_1 0).f1, (rd_T47 x3_1 0).f2, (rd_T47 x3_1 0).f3⟩ : S47)]) := ⟨_, rfl⟩
         replace H : (spec_l4Any.l0 k1 y398 s0_0 t367 t368) = some (r1, r2, r3) := by first | (rw [hy398]; with_reducible exact H) | (have H2_ := (Option.bind_some _ _).symm.trans H; rw [hy398]; with_reducible exact H2_) | (have H2_ := (Option.bind_some _ _).symm.trans H; with_reducible exact H2_) | with_reducible exact H | (rw [hy398]; exact H) | exact H
         have Ny398 := Aside0.mk hy398
         clear hy398
         have H' := Aside0.mk H
         clear H
         obtain ⟨Ao73, co73, eo73⟩ := Kd.R_slice HO_3.out
         subst eo73
         have p397 : 0 ≤ (0 : Int) := (by omega)
         have q397 : 0 < (x3_1.length : Int) := zD
         obtain ⟨ad397, e397, hx397_0, hx397_1, hx397_2, hx397_3⟩ := at_T47 (Kd.R_reads' HO_3.out).2.2 0 p397 q397
         cases e397
         have qi397 : (0 < x3_1.length) = True := eq_true (by omega)
         (try rw [show ((0 : Int)).toNat = 0 from rfl] at hx397_0)
         (try rw [show 0 * 4 = 0 from rfl] at hx397_0)
         (try rw [Addr.add_zero'] at hx397_0)
         (try rw [show ((0 : Int)).toNat = 0 from rfl] at hx397_1)
         (try rw [show 0 * 4 = 0 from rfl] at hx397_1)
         (try rw [Addr.add_zero'] at hx397_1)
         (try rw [show ((0 : Int)).toNat = 0 from rfl] at hx397_2)
         (try rw [show 0 * 4 = 0 from rfl] at hx397_2)
         (try rw [Addr.add_zero'] at hx397_2)
         (try rw [show ((0 : Int)).toNat = 0 from rfl] at hx397_3)
         (try rw [show 0 * 4 = 0 from rfl] at hx397_3)
         (try rw [Addr.add_zero'] at hx397_3)
         replace p397 := eq_true p397
         replace q397 := eq_true q397
         go_wp2_with (first | ((with_reducible refine gate_builtin (b := .append) (xs := #[.tmp 54, .tmp 58]) rfl ?_); at_builtin; refine Kd.R_append k47 w.heap.size rfl (.tmp 54) (.tmp 58) 25 47 (.agg #[(.int .i64 0), (.int .i64 0), (.int .i64 0), (.int .i64 0)]) 32 rfl Try.underlying25 info47 rfl (by decide) (by omega) (.slice (some ad397) x3_1.length co73) x3_1 (⟨(rd_T47 x3_1 0).f0, (rd_T47 x3_1 0).f1, (rd_T47 x3_1 0).f2, (rd_T47 x3_1 0).f3⟩ : S47) [.int .i64 ((rd_T47 x3_1 0).f0), .int .i64 ((rd_T47 x3_1 0).f1), .int .i64 ((rd_T47 x3_1 0).f2), .int .i64 ((rd_T47 x3_1 0).f3)] (fun _ => True) (fun _ => False) rfl rfl ?aP (fun _ hk => hk.elim) ?aF ?aO (Below.refl _ _) ?aS ?aL ?_; (case aP => exact k47_mkM _ _ _ (⟨(rd_T47 x3_1 0).f0, (rd_T47 x3_1 0).f1, (rd_T47 x3_1 0).f2, (rd_T47 x3_1 0).f3⟩ : S47)); (case aF => exact (fun _ _ => trivial)); (case aO => exact (zR HO_3)); (case aS => exact (keep_size (w := w) (g := g) (row := none) (zH HK))); (case aL => have := LMc72.out; omega); intro v399 w74 ho hb hg hat; rw [← Ny398.out] at ho; replace HB := Aside0.mk (below_weaken (by repeat (first | (with_reducible first | exact HB.out | apply below_alloc | apply pw_below_drewN | apply below_drew1 | refine below_set ?_ (IsS78.ge HI0.out)) | exact HB.out)) HL.out hb); replace HI0 := Aside0.mk (IsS78.grown (spec_l4Any.zI78 HI0) hg (IsS78.own_ne HI0.out HO_3.out (by decide))); replace HK := Aside0.mk (KeepBut.trans (zH HK) (KeepBut.of_grown hg g) (Kd.R_base2 HO_3.out)); have HO400 := Aside0.mk (ho); clear HO_3; clear ho hb hg hat))
         go_roundg k1
         case measure => have := HK1.out; omega
         case rel => exact ⟨(y398), H', ⟨by have := HK1.out; omega⟩, ⟨zR HO400⟩, ⟨spec_l4Any.zI78 HI0⟩, ⟨zH HK⟩, ⟨by repeat (first | (with_reducible first | exact HB.out | apply below_alloc | apply pw_below_drewN | apply below_drew1 | refine below_set ?_ (IsS78.ge HI0.out)) | exact HB.out)⟩⟩
        ·rw [if_neg c70] at H
         have c70b0 : decide ((x3_1.length : Int) < 7) = false := decide_eq_false c70
         have c70b1 : decide (x3_1.length < 7) = false := decide_eq_false (by omega)
         clear c70
         simp only [Option.some.injEq, Prod.mk.injEq] at H
         obtain ⟨rfl, rfl, rfl⟩ := H
         obtain ⟨Ao75, co75, eo75⟩ := Kd.R_slice HO_3.out
         subst eo75
         go_wp2
         go_ret
         exact ⟨_, zE, by (with_reducible repeat (first | apply Kd.R_alloc | apply Kd.R_drewN | apply Kd.R_drew)); exact HO_3.out, spec_l4Any.zI78 HI0, by repeat (first | (with_reducible first | exact HB.out | apply below_alloc | apply pw_below_drewN | apply below_drew1 | refine below_set ?_ (IsS78.ge HI0.out)) | exact HB.out), zH HK⟩
     ·rw [if_neg c65] at H
      have c65b0 : (t366 == 4) = false := beq_eq_false_iff_ne.mpr c65
      have c65b1 : (t366 != 4) = true := bne_iff_ne.mpr c65
      by_cases c76 : t366 = 5
      ·rw [if_pos c76] at H
       have c76b0 : (t366 == 5) = true := beq_iff_eq.mpr c76
       have c76b1 : (t366 != 5) = false := bne_eq_false_iff_eq.mpr c76
       clear c76
       simp only [Option.some.injEq, Prod.mk.injEq] at H
       obtain ⟨rfl, rfl, rfl⟩ := H
       go_enter Try.func54, Try.ntmps54
       go_wp2_with (first | ((with_reducible refine gate_callee (f := 51) rfl ?_); refine goesL_ (some 6) rfl rfl Try.func51 (by kernel_rfl) rfl #[.pointer (some ⟨g, 0, none⟩)] rfl zG ?_; (with_reducible refine (spec_l4Draw.calls k g s0_0 s0_1 s0_2 t358 t361 t362 w0 _ ?side1 ?side2 A2.out).mono ?_); (case side1 => exact spec_l4Any.zI78 HI0); (case side2 => repeat (first | (with_reducible first | exact HB.out | apply below_alloc | apply pw_below_drewN | apply below_drew1 | refine below_set ?_ (IsS78.ge HI0.out)) | exact HB.out)); rintro e w77 ⟨v359, rfl, ho0, hi, hb, hk⟩; refine ⟨_, rfl, ?_⟩; have HO360 := Aside0.mk (Kd.R_lower ho0 (keep_size (w := w) (g := g) (row := none) (zH HK))); replace HK := Aside0.mk (KeepBut.trans (zH HK) hk (.inl rfl)); replace HB := Aside0.mk (hb); replace HI0 := Aside0.mk (hi); (try clear hb); (try clear ho0); obtain ⟨Ao78, co78, eo78⟩ := Kd.R_slice HO360.out; subst eo78) | ((with_reducible refine gate_callee (f := 53) rfl ?_); refine goesL_ (some 10) rfl rfl Try.func53 (by kernel_rfl) rfl #[.pointer (some ⟨g, 0, none⟩), .int .i64 (t358.length : Int)] rfl zG ?_; (with_reducible refine (spec_l1Below.calls g s0_0 t361 t362 (t358.length : Int) t363 t364 t365 w0 _ ?side1 ?side2 A3.out).mono ?_); (case side1 => exact spec_l4Any.zI78 HI0); (case side2 => repeat (first | (with_reducible first | exact HB.out | apply below_alloc | apply pw_below_drewN | apply below_drew1 | refine below_set ?_ (IsS78.ge HI0.out)) | exact HB.out)); rintro e w79 ⟨rfl, hi, hb, hk⟩; refine ⟨_, rfl, ?_⟩; replace HO360 := Aside0.mk (Kd.R_mono (Kd.R_keep (IsS78.apart (show IsS78 w0 _ g s0_0 t361 t362 from spec_l4Any.zI78 HI0) (zR HO360) (by decide)) hk (fun _ h => h.2)) (fun _ h => h.1)); replace HK := Aside0.mk (KeepBut.trans (zH HK) hk (.inl rfl)); replace HB := Aside0.mk (hb); replace HI0 := Aside0.mk (hi); (try clear hb)) | ((with_reducible refine gate_callee (f := 53) rfl ?_); refine goesL_ (some 12) rfl rfl Try.func53 (by kernel_rfl) rfl #[.pointer (some ⟨g, 0, none⟩), .int .i64 12] rfl zG ?_; (with_reducible refine (spec_l1Below.calls g s0_0 t364 t365 12 t366 t367 t368 w0 _ ?side1 ?side2 A4.out).mono ?_); (case side1 => exact spec_l4Any.zI78 HI0); (case side2 => repeat (first | (with_reducible first | exact HB.out | apply below_alloc | apply pw_below_drewN | apply below_drew1 | refine below_set ?_ (IsS78.ge HI0.out)) | exact HB.out)); rintro e w80 ⟨rfl, hi, hb, hk⟩; refine ⟨_, rfl, ?_⟩; replace HO360 := Aside0.mk (Kd.R_mono (Kd.R_keep (IsS78.apart (show IsS78 w0 _ g s0_0 t364 t365 from spec_l4Any.zI78 HI0) (zR HO360) (by decide)) hk (fun _ h => h.2)) (fun _ h => h.1)); replace HK := Aside0.mk (KeepBut.trans (zH HK) hk (.inl rfl)); replace HB := Aside0.mk (hb); replace HI0 := Aside0.mk (hi); (try clear hb)))
       go_ret
       exact ⟨_, zE, by first | exact Kd.R_nil _ _ _ _ _ | exact Kd.N_nil _ _ _ _ _ | exact Kd.V_nil _ _ _ _ _ | exact Kd.Q_nil _ _ _ _ _ | exact Kd.S_nil _ _ _ _ _, spec_l4Any.zI78 HI0, by repeat (first | (with_reducible first | exact HB.out | apply below_alloc | apply pw_below_drewN | apply below_drew1 | refine below_set ?_ (IsS78.ge HI0.out)) | exact HB.out), zH HK⟩
      ·rw [if_neg c76] at H
       have c76b0 : (t366 == 5) = false := beq_eq_false_iff_ne.mpr c76
       have c76b1 : (t366 != 5) = true := bne_iff_ne.mpr c76
       simp only [Option.some.injEq, Prod.mk.injEq] at H
       obtain ⟨rfl, rfl, rfl⟩ := H
       go_enter Try.func54, Try.ntmps54
       go_wp2_with (first | ((with_reducible refine gate_callee (f := 51) rfl ?_); refine goesL_ (some 6) rfl rfl Try.func51 (by kernel_rfl) rfl #[.pointer (some ⟨g, 0, none⟩)] rfl zG ?_; (with_reducible refine (spec_l4Draw.calls k g s0_0 s0_1 s0_2 t358 t361 t362 w0 _ ?side1 ?side2 A2.out).mono ?_); (case side1 => exact spec_l4Any.zI78 HI0); (case side2 => repeat (first | (with_reducible first | exact HB.out | apply below_alloc | apply pw_below_drewN | apply below_drew1 | refine below_set ?_ (IsS78.ge HI0.out)) | exact HB.out)); rintro e w81 ⟨v359, rfl, ho0, hi, hb, hk⟩; refine ⟨_, rfl, ?_⟩; have HO360 := Aside0.mk (Kd.R_lower ho0 (keep_size (w := w) (g := g) (row := none) (zH HK))); replace HK := Aside0.mk (KeepBut.trans (zH HK) hk (.inl rfl)); replace HB := Aside0.mk (hb); replace HI0 := Aside0.mk (hi); (try clear hb); (try clear ho0); obtain ⟨Ao82, co82, eo82⟩ := Kd.R_slice HO360.out; subst eo82) | ((with_reducible refine gate_callee (f := 53) rfl ?_); refine goesL_ (some 10) rfl rfl Try.func53 (by kernel_rfl) rfl #[.pointer (some ⟨g, 0, none⟩), .int .i64 (t358.length : Int)] rfl zG ?_; (with_reducible refine (spec_l1Below.calls g s0_0 t361 t362 (t358.length : Int) t363 t364 t365 w0 _ ?side1 ?side2 A3.out).mono ?_); (case side1 => exact spec_l4Any.zI78 HI0); (case side2 => repeat (first | (with_reducible first | exact HB.out | apply below_alloc | apply pw_below_drewN | apply below_drew1 | refine below_set ?_ (IsS78.ge HI0.out)) | exact HB.out)); rintro e w83 ⟨rfl, hi, hb, hk⟩; refine ⟨_, rfl, ?_⟩; replace HO360 := Aside0.mk (Kd.R_mono (Kd.R_keep (IsS78.apart (show IsS78 w0 _ g s0_0 t361 t362 from spec_l4Any.zI78 HI0) (zR HO360) (by decide)) hk (fun _ h => h.2)) (fun _ h => h.1)); replace HK := Aside0.mk (KeepBut.trans (zH HK) hk (.inl rfl)); replace HB := Aside0.mk (hb); replace HI0 := Aside0.mk (hi); (try clear hb)) | ((with_reducible refine gate_callee (f := 53) rfl ?_); refine goesL_ (some 12) rfl rfl Try.func53 (by kernel_rfl) rfl #[.pointer (some ⟨g, 0, none⟩), .int .i64 12] rfl zG ?_; (with_reducible refine (spec_l1Below.calls g s0_0 t364 t365 12 t366 t367 t368 w0 _ ?side1 ?side2 A4.out).mono ?_); (case side1 => exact spec_l4Any.zI78 HI0); (case side2 => repeat (first | (with_reducible first | exact HB.out | apply below_alloc | apply pw_below_drewN | apply below_drew1 | refine below_set ?_ (IsS78.ge HI0.out)) | exact HB.out)); rintro e w84 ⟨rfl, hi, hb, hk⟩; refine ⟨_, rfl, ?_⟩; replace HO360 := Aside0.mk (Kd.R_mono (Kd.R_keep (IsS78.apart (show IsS78 w0 _ g s0_0 t364 t365 from spec_l4Any.zI78 HI0) (zR HO360) (by decide)) hk (fun _ h => h.2)) (fun _ h => h.1)); replace HK := Aside0.mk (KeepBut.trans (zH HK) hk (.inl rfl)); replace HB := Aside0.mk (hb); replace HI0 := Aside0.mk (hi); (try clear hb)))
       go_ret
       exact ⟨_, zE, by (with_reducible repeat (first | apply Kd.R_alloc | apply Kd.R_drewN | apply Kd.R_drew)); exact HO360.out, spec_l4Any.zI78 HI0, by repeat (first | (with_reducible first | exact HB.out | apply below_alloc | apply pw_below_drewN | apply below_drew1 | refine below_set ?_ (IsS78.ge HI0.out)) | exact HB.out), zH HK⟩

/-! ### spec_DrawIsWithin: function 34 -/
def spec_DrawIsWithin.f (k : Nat) (l0 : List Int) : Option ((List (S47)) × (List (S47))) := (spec_l1New.f k l0).bind fun bt401 => ((spec_l4Draw.f k bt401.1 bt401.2.1 bt401.2.2).bind fun bt405 => ((spec_l8Next.f bt401.1 bt405.2.1 bt405.2.2 bt405.1).bind fun bt410 => ((spec_l1Below.f bt401.1 bt410.2.1 bt410.2.2 8).bind fun bt415 => (if bt415.1 = 0 then (some (bt410.1, bt405.1)) else (if bt415.1 = 1 then ((spec_l4Any.f k bt401.1 bt415.2.1 bt415.2.2).bind fun bt418 => (some (bt405.1, bt418.1))) else (some (bt405.1, bt410.1)))))))
theorem spec_DrawIsWithin.mono : ∀ a0 k, LeO (spec_DrawIsWithin.f k a0) (spec_DrawIsWithin.f (k + 1) a0) := by
 intro a0 k
 unfold spec_DrawIsWithin.f
 repeat' first
   | (with_reducible exact spec_l1New.mono _ _)
   | (with_reducible exact spec_l4Any.mono _ _ _ _)
   | (with_reducible exact spec_l4Draw.mono _ _ _ _)
   | (with_reducible exact LeO.refl _)
   | (with_reducible exact LeO.none _)
   | (with_reducible refine LeO.ite ?_ ?_)
   | (with_reducible refine LeO.bind ?_ (fun _ => ?_))
   | exact spec_l1New.mono _ _
   | exact spec_l4Any.mono _ _ _ _
   | exact spec_l4Draw.mono _ _ _ _
   | exact LeO.none _
   | refine LeO.ite ?_ ?_
   | refine LeO.bind ?_ (fun _ => ?_)
theorem spec_DrawIsWithin.zI78 {P Q : Prop} (h : Aside0 P) (hw : P → Q := by intro h_; repeat (first | (with_reducible first | exact h_ | apply IsS78.alloc | apply IsS78.drew | apply IsS78.drewN | apply IsS78.set_1 | apply IsS78.set_2) | exact h_)) : Q := hw h.out
set_option maxHeartbeats 8000000 in
set_option maxRecDepth 100000 in
theorem spec_DrawIsWithin.calls (k : Nat) (A0 : Option Addr) (c0 : Nat) (l0 : List Int) (r1 : List (S47)) (r2 : List (S47)) (w : World) (hr0 : Kd.C (Kd.int .u8) w A0 l0.length l0) (hc0 : l0.length ≤ c0) (h : spec_DrawIsWithin.f k l0 = some (r1, r2)) :
  Calls Try.prog 34 #[.slice A0 l0.length c0] w fun e w' => ∃ v0_ v1_ : Value, e = .returned (.tuple #[v0_, v1_]) ∧ Kd.R k47 47 w' w.heap.size (fun k_ => some k_ ≠ (v1_ : Value).ownBlock) v0_ r1 ∧ Kd.R k47 47 w' w.heap.size (fun k_ => some k_ ≠ (v0_ : Value).ownBlock) v1_ r2 ∧ Below w.heap.size w w' := by
 have HR0 := Aside0.mk hr0
 have HC0 := Aside0.mk hc0
 clear hr0 hc0
 have HB := Aside0.mk (Below.refl w.heap.size w)
 have H : ((spec_l1New.f k l0).bind fun bt401 => ((spec_l4Draw.f k bt401.1 bt401.2.1 bt401.2.2).bind fun bt405 => ((spec_l8Next.f bt401.1 bt405.2.1 bt405.2.2 bt405.1).bind fun bt410 => ((spec_l1Below.f bt401.1 bt410.2.1 bt410.2.2 8).bind fun bt415 => (if bt415.1 = 0 then (some (bt410.1, bt405.1)) else (if bt415.1 = 1 then ((spec_l4Any.f k bt401.1 bt415.2.1 bt415.2.2).bind fun bt418 => (some (bt405.1, bt418.1))) else (some (bt405.1, bt410.1)))))))) = some (r1, r2) := h
 clear h
 replace H := Option.bind_eq_some_iff.mp H
 obtain ⟨⟨t401, t402, t403⟩, A20, H⟩ := H
 replace H : ((spec_l4Draw.f k t401 t402 t403).bind fun bt405 => ((spec_l8Next.f t401 bt405.2.1 bt405.2.2 bt405.1).bind fun bt410 => ((spec_l1Below.f t401 bt410.2.1 bt410.2.2 8).bind fun bt415 => (if bt415.1 = 0 then (some (bt410.1, bt405.1)) else (if bt415.1 = 1 then ((spec_l4Any.f k t401 bt415.2.1 bt415.2.2).bind fun bt418 => (some (bt405.1, bt418.1))) else (some (bt405.1, bt410.1))))))) = some (r1, r2) := H
 have A2 := Aside0.mk A20
 clear A20
 replace H := Option.bind_eq_some_iff.mp H
 obtain ⟨⟨t405, t408, t409⟩, A30, H⟩ := H
 replace H : ((spec_l8Next.f t401 t408 t409 t405).bind fun bt410 => ((spec_l1Below.f t401 bt410.2.1 bt410.2.2 8).bind fun bt415 => (if bt415.1 = 0 then (some (bt410.1, t405)) else (if bt415.1 = 1 then ((spec_l4Any.f k t401 bt415.2.1 bt415.2.2).bind fun bt418 => (some (t405, bt418.1))) else (some (t405, bt410.1)))))) = some (r1, r2) := H
 have A3 := Aside0.mk A30
 clear A30
 replace H := Option.bind_eq_some_iff.mp H
 obtain ⟨⟨t410, t413, t414⟩, A40, H⟩ := H
 replace H : ((spec_l1Below.f t401 t413 t414 8).bind fun bt415 => (if bt415.1 = 0 then (some (t410, t405)) else (if bt415.1 = 1 then ((spec_l4Any.f k t401 bt415.2.1 bt415.2.2).bind fun bt418 => (some (t405, bt418.1))) else (some (t405, t410))))) = some (r1, r2) := H
 have A4 := Aside0.mk A40
 clear A40
 replace H := Option.bind_eq_some_iff.mp H
 obtain ⟨⟨t415, t416, t417⟩, A50, H⟩ := H
 replace H : (if t415 = 0 then (some (t410, t405)) else (if t415 = 1 then ((spec_l4Any.f k t401 t416 t417).bind fun bt418 => (some (t405, bt418.1))) else (some (t405, t410)))) = some (r1, r2) := H
 have A5 := Aside0.mk A50
 clear A50
 by_cases c6 : t415 = 0
 ·rw [if_pos c6] at H
  have c6b0 : (t415 == 0) = true := beq_iff_eq.mpr c6
  have c6b1 : (t415 != 0) = false := bne_eq_false_iff_eq.mpr c6
  clear c6
  simp only [Option.some.injEq, Prod.mk.injEq] at H
  obtain ⟨rfl, rfl⟩ := H
  go_enter Try.func34, Try.ntmps34
  go_wp2_with (first | ((with_reducible refine gate_callee (f := 50) rfl ?_); refine goesL_ (some 8) rfl rfl Try.func50 (by kernel_rfl) rfl #[.slice A0 l0.length c0] rfl zG ?_; (with_reducible refine (spec_l1New.calls k _ _ l0 t401 t402 t403 w _ ?side1 ?side2 ?side3 A2.out).mono ?_); (case side1 => repeat (first | (with_reducible first | exact HB.out | apply below_alloc | apply pw_below_drewN | apply below_drew1) | exact HB.out)); (case side2 => exact HR0.out); (case side3 => exact HC0.out); rintro e w7 ⟨g404, rfl, hi, hb, hb2⟩; refine ⟨_, rfl, ?_⟩; replace HB := Aside0.mk (hb); have HI404 := Aside0.mk (hi); (try clear hb)) | ((with_reducible refine gate_callee (f := 51) rfl ?_); refine goesL_ (some 10) rfl rfl Try.func51 (by kernel_rfl) rfl #[.pointer (some ⟨g404, 0, none⟩)] rfl zG ?_; (with_reducible refine (spec_l4Draw.calls k g404 t401 t402 t403 t405 t408 t409 w _ ?side1 ?side2 A3.out).mono ?_); (case side1 => exact spec_DrawIsWithin.zI78 HI404); (case side2 => repeat (first | (with_reducible first | exact HB.out | apply below_alloc | apply pw_below_drewN | apply below_drew1 | refine below_set ?_ (IsS78.ge HI404.out)) | exact HB.out)); rintro e w8 ⟨v406, rfl, ho0, hi, hb, hk⟩; refine ⟨_, rfl, ?_⟩; have HO407 := Aside0.mk (Kd.R_lower ho0 (below_size (by repeat (first | (with_reducible first | exact HB.out | apply below_alloc | apply pw_below_drewN | apply below_drew1 | refine below_set ?_ (IsS78.ge HI404.out)) | exact HB.out)))); replace HB := Aside0.mk (hb); replace HI404 := Aside0.mk (hi); (try clear hb); (try clear ho0); obtain ⟨Ao9, co9, eo9⟩ := Kd.R_slice HO407.out; subst eo9) | ((with_reducible refine gate_callee (f := 52) rfl ?_); refine goesL_ (some 13) rfl rfl Try.func52 (by kernel_rfl) rfl #[.pointer (some ⟨g404, 0, none⟩), .slice Ao9 t405.length co9] rfl zG ?_; (with_reducible refine (spec_l8Next.calls g404 t401 t408 t409 _ _ t405 t410 t413 t414 w _ ?side1 ?side2 ?side3 ?side4 A4.out).mono ?_); (case side1 => exact spec_DrawIsWithin.zI78 HI404); (case side2 => repeat (first | (with_reducible first | exact HB.out | apply below_alloc | apply pw_below_drewN | apply below_drew1 | refine below_set ?_ (IsS78.ge HI404.out)) | exact HB.out)); (case side3 => exact Kd.C_foot_own (IsS78.apart (show IsS78 w _ g404 t401 t408 t409 from spec_DrawIsWithin.zI78 HI404) (zR HO407) (by decide)) (fun _ h_ => h_.2)); (case side4 => exact (Kd.R_reads' HO407.out).2.1); rintro e w10 ⟨v411, rfl, ho0, hi, hb, hk⟩; refine ⟨_, rfl, ?_⟩; have HO412 := Aside0.mk (Kd.R_lower (Kd.R_new' ho0 (Kd.R_lt (zR HO407))) (below_size (by repeat (first | (with_reducible first | exact HB.out | apply below_alloc | apply pw_below_drewN | apply below_drew1 | refine below_set ?_ (IsS78.ge HI404.out)) | exact HB.out)))); replace HO407 := Aside0.mk (Kd.R_mono (Kd.R_told (Kd.R_oldK (IsS78.apart (show IsS78 w _ g404 t401 t408 t409 from spec_DrawIsWithin.zI78 HI404) (zR HO407) (by decide)) hk) (Kd.R_base ho0)) (fun _ h_ => h_.1)); replace HB := Aside0.mk (hb); replace HI404 := Aside0.mk (hi); (try clear hb); (try clear ho0)) | ((with_reducible refine gate_callee (f := 53) rfl ?_); refine goesL_ (some 15) rfl rfl Try.func53 (by kernel_rfl) rfl #[.pointer (some ⟨g404, 0, none⟩), .int .i64 8] rfl zG ?_; (with_reducible refine (spec_l1Below.calls g404 t401 t413 t414 8 t415 t416 t417 w _ ?side1 ?side2 A5.out).mono ?_); (case side1 => exact spec_DrawIsWithin.zI78 HI404); (case side2 => repeat (first | (with_reducible first | exact HB.out | apply below_alloc | apply pw_below_drewN | apply below_drew1 | refine below_set ?_ (IsS78.ge HI404.out)) | exact HB.out)); rintro e w11 ⟨rfl, hi, hb, hk⟩; refine ⟨_, rfl, ?_⟩; replace HO407 := Aside0.mk (Kd.R_mono (Kd.R_keep (IsS78.apart (show IsS78 w _ g404 t401 t413 t414 from spec_DrawIsWithin.zI78 HI404) (zR HO407) (by decide)) hk (fun _ h => h.2)) (fun _ h => h.1)); replace HO412 := Aside0.mk (Kd.R_mono (Kd.R_keep (IsS78.apart (show IsS78 w _ g404 t401 t413 t414 from spec_DrawIsWithin.zI78 HI404) (zR HO412) (by decide)) hk (fun _ h => h.2)) (fun _ h => h.1)); replace HB := Aside0.mk (hb); replace HI404 := Aside0.mk (hi); (try clear hb)))
  go_ret2
  exact ⟨_, _, zE, by (with_reducible repeat (first | apply Kd.R_alloc | apply Kd.R_drewN | apply Kd.R_drew)); exact Kd.R_mono HO412.out (fun _ hk => hk.2), by (with_reducible repeat (first | apply Kd.R_alloc | apply Kd.R_drewN | apply Kd.R_drew)); exact Kd.R_mono HO407.out (fun _ hk => hk.2), by repeat (first | (with_reducible first | exact HB.out | apply below_alloc | apply pw_below_drewN | apply below_drew1 | refine below_set ?_ (IsS78.ge HI404.out)) | exact HB.out)⟩
 ·rw [if_neg c6] at H
  have c6b0 : (t415 == 0) = false := beq_eq_false_iff_ne.mpr c6
  have c6b1 : (t415 != 0) = true := bne_iff_ne.mpr c6
  by_cases c12 : t415 = 1
  ·rw [if_pos c12] at H
   have c12b0 : (t415 == 1) = true := beq_iff_eq.mpr c12
   have c12b1 : (t415 != 1) = false := bne_eq_false_iff_eq.mpr c12
   clear c12
   replace H := Option.bind_eq_some_iff.mp H
   obtain ⟨⟨t418, t421, t422⟩, A130, H⟩ := H
   replace H : (some (t405, t418)) = some (r1, r2) := H
   have A13 := Aside0.mk A130
   clear A130
   simp only [Option.some.injEq, Prod.mk.injEq] at H
   obtain ⟨rfl, rfl⟩ := H
   go_enter Try.func34, Try.ntmps34
   go_wp2_with (first | ((with_reducible refine gate_callee (f := 50) rfl ?_); refine goesL_ (some 8) rfl rfl Try.func50 (by kernel_rfl) rfl #[.slice A0 l0.length c0] rfl zG ?_; (with_reducible refine (spec_l1New.calls k _ _ l0 t401 t402 t403 w _ ?side1 ?side2 ?side3 A2.out).mono ?_); (case side1 => repeat (first | (with_reducible first | exact HB.out | apply below_alloc | apply pw_below_drewN | apply below_drew1) | exact HB.out)); (case side2 => exact HR0.out); (case side3 => exact HC0.out); rintro e w14 ⟨g404, rfl, hi, hb, hb2⟩; refine ⟨_, rfl, ?_⟩; replace HB := Aside0.mk (hb); have HI404 := Aside0.mk (hi); (try clear hb)) | ((with_reducible refine gate_callee (f := 51) rfl ?_); refine goesL_ (some 10) rfl rfl Try.func51 (by kernel_rfl) rfl #[.pointer (some ⟨g404, 0, none⟩)] rfl zG ?_; (with_reducible refine (spec_l4Draw.calls k g404 t401 t402 t403 t405 t408 t409 w _ ?side1 ?side2 A3.out).mono ?_); (case side1 => exact spec_DrawIsWithin.zI78 HI404); (case side2 => repeat (first | (with_reducible first | exact HB.out | apply below_alloc | apply pw_below_drewN | apply below_drew1 | refine below_set ?_ (IsS78.ge HI404.out)) | exact HB.out)); rintro e w15 ⟨v406, rfl, ho0, hi, hb, hk⟩; refine ⟨_, rfl, ?_⟩; have HO407 := Aside0.mk (Kd.R_lower ho0 (below_size (by repeat (first | (with_reducible first | exact HB.out | apply below_alloc | apply pw_below_drewN | apply below_drew1 | refine below_set ?_ (IsS78.ge HI404.out)) | exact HB.out)))); replace HB := Aside0.mk (hb); replace HI404 := Aside0.mk (hi); (try clear hb); (try clear ho0); obtain ⟨Ao16, co16, eo16⟩ := Kd.R_slice HO407.out; subst eo16) | ((with_reducible refine gate_callee (f := 52) rfl ?_); refine goesL_ (some 13) rfl rfl Try.func52 (by kernel_rfl) rfl #[.pointer (some ⟨g404, 0, none⟩), .slice Ao16 t405.length co16] rfl zG ?_; (with_reducible refine (spec_l8Next.calls g404 t401 t408 t409 _ _ t405 t410 t413 t414 w _ ?side1 ?side2 ?side3 ?side4 A4.out).mono ?_); (case side1 => exact spec_DrawIsWithin.zI78 HI404); (case side2 => repeat (first | (with_reducible first | exact HB.out | apply below_alloc | apply pw_below_drewN | apply below_drew1 | refine below_set ?_ (IsS78.ge HI404.out)) | exact HB.out)); (case side3 => exact Kd.C_foot_own (IsS78.apart (show IsS78 w _ g404 t401 t408 t409 from spec_DrawIsWithin.zI78 HI404) (zR HO407) (by decide)) (fun _ h_ => h_.2)); (case side4 => exact (Kd.R_reads' HO407.out).2.1); rintro e w17 ⟨v411, rfl, ho0, hi, hb, hk⟩; refine ⟨_, rfl, ?_⟩; have HO412 := Aside0.mk (Kd.R_lower (Kd.R_new' ho0 (Kd.R_lt (zR HO407))) (below_size (by repeat (first | (with_reducible first | exact HB.out | apply below_alloc | apply pw_below_drewN | apply below_drew1 | refine below_set ?_ (IsS78.ge HI404.out)) | exact HB.out)))); replace HO407 := Aside0.mk (Kd.R_mono (Kd.R_told (Kd.R_oldK (IsS78.apart (show IsS78 w _ g404 t401 t408 t409 from spec_DrawIsWithin.zI78 HI404) (zR HO407) (by decide)) hk) (Kd.R_base ho0)) (fun _ h_ => h_.1)); replace HB := Aside0.mk (hb); replace HI404 := Aside0.mk (hi); (try clear hb); (try clear ho0)) | ((with_reducible refine gate_callee (f := 53) rfl ?_); refine goesL_ (some 15) rfl rfl Try.func53 (by kernel_rfl) rfl #[.pointer (some ⟨g404, 0, none⟩), .int .i64 8] rfl zG ?_; (with_reducible refine (spec_l1Below.calls g404 t401 t413 t414 8 t415 t416 t417 w _ ?side1 ?side2 A5.out).mono ?_); (case side1 => exact spec_DrawIsWithin.zI78 HI404); (case side2 => repeat (first | (with_reducible first | exact HB.out | apply below_alloc | apply pw_below_drewN | apply below_drew1 | refine below_set ?_ (IsS78.ge HI404.out)) | exact HB.out)); rintro e w18 ⟨rfl, hi, hb, hk⟩; refine ⟨_, rfl, ?_⟩; replace HO407 := Aside0.mk (Kd.R_mono (Kd.R_keep (IsS78.apart (show IsS78 w _ g404 t401 t413 t414 from spec_DrawIsWithin.zI78 HI404) (zR HO407) (by decide)) hk (fun _ h => h.2)) (fun _ h => h.1)); replace HO412 := Aside0.mk (Kd.R_mono (Kd.R_keep (IsS78.apart (show IsS78 w _ g404 t401 t413 t414 from spec_DrawIsWithin.zI78 HI404) (zR HO412) (by decide)) hk (fun _ h => h.2)) (fun _ h => h.1)); replace HB := Aside0.mk (hb); replace HI404 := Aside0.mk (hi); (try clear hb)) | ((with_reducible refine gate_callee (f := 54) rfl ?_); refine goesL_ (some 24) rfl rfl Try.func54 (by kernel_rfl) rfl #[.pointer (some ⟨g404, 0, none⟩)] rfl zG ?_; (with_reducible refine (spec_l4Any.calls k g404 t401 t416 t417 t418 t421 t422 w _ ?side1 ?side2 A13.out).mono ?_); (case side1 => exact spec_DrawIsWithin.zI78 HI404); (case side2 => repeat (first | (with_reducible first | exact HB.out | apply below_alloc | apply pw_below_drewN | apply below_drew1 | refine below_set ?_ (IsS78.ge HI404.out)) | exact HB.out)); rintro e w19 ⟨v419, rfl, ho0, hi, hb, hk⟩; refine ⟨_, rfl, ?_⟩; have HO420 := Aside0.mk (Kd.R_lower (Kd.R_new' (Kd.R_new' ho0 (Kd.R_lt (zR HO407))) (Kd.R_lt (zR HO412))) (below_size (by repeat (first | (with_reducible first | exact HB.out | apply below_alloc | apply pw_below_drewN | apply below_drew1 | refine below_set ?_ (IsS78.ge HI404.out)) | exact HB.out)))); replace HO407 := Aside0.mk (Kd.R_mono (Kd.R_told (Kd.R_oldK (IsS78.apart (show IsS78 w _ g404 t401 t416 t417 from spec_DrawIsWithin.zI78 HI404) (zR HO407) (by decide)) hk) (Kd.R_base ho0)) (fun _ h_ => h_.1)); replace HO412 := Aside0.mk (Kd.R_mono (Kd.R_told (Kd.R_oldK (IsS78.apart (show IsS78 w _ g404 t401 t416 t417 from spec_DrawIsWithin.zI78 HI404) (zR HO412) (by decide)) hk) (Kd.R_base ho0)) (fun _ h_ => h_.1)); replace HB := Aside0.mk (hb); replace HI404 := Aside0.mk (hi); (try clear hb); (try clear ho0)))
   go_ret2
   exact ⟨_, _, zE, by (with_reducible repeat (first | apply Kd.R_alloc | apply Kd.R_drewN | apply Kd.R_drew)); exact Kd.R_mono HO407.out (fun _ hk => hk.2), by (with_reducible repeat (first | apply Kd.R_alloc | apply Kd.R_drewN | apply Kd.R_drew)); exact Kd.R_mono HO420.out (fun _ hk => hk.1.2), by repeat (first | (with_reducible first | exact HB.out | apply below_alloc | apply pw_below_drewN | apply below_drew1 | refine below_set ?_ (IsS78.ge HI404.out)) | exact HB.out)⟩
  ·rw [if_neg c12] at H
   have c12b0 : (t415 == 1) = false := beq_eq_false_iff_ne.mpr c12
   have c12b1 : (t415 != 1) = true := bne_iff_ne.mpr c12
   simp only [Option.some.injEq, Prod.mk.injEq] at H
   obtain ⟨rfl, rfl⟩ := H
   go_enter Try.func34, Try.ntmps34
   go_wp2_with (first | ((with_reducible refine gate_callee (f := 50) rfl ?_); refine goesL_ (some 8) rfl rfl Try.func50 (by kernel_rfl) rfl #[.slice A0 l0.length c0] rfl zG ?_; (with_reducible refine (spec_l1New.calls k _ _ l0 t401 t402 t403 w _ ?side1 ?side2 ?side3 A2.out).mono ?_); (case side1 => repeat (first | (with_reducible first | exact HB.out | apply below_alloc | apply pw_below_drewN | apply below_drew1) | exact HB.out)); (case side2 => exact HR0.out); (case side3 => exact HC0.out); rintro e w20 ⟨g404, rfl, hi, hb, hb2⟩; refine ⟨_, rfl, ?_⟩; replace HB := Aside0.mk (hb); have HI404 := Aside0.mk (hi); (try clear hb)) | ((with_reducible refine gate_callee (f := 51) rfl ?_); refine goesL_ (some 10) rfl rfl Try.func51 (by kernel_rfl) rfl #[.pointer (some ⟨g404, 0, none⟩)] rfl zG ?_; (with_reducible refine (spec_l4Draw.calls k g404 t401 t402 t403 t405 t408 t409 w _ ?side1 ?side2 A3.out).mono ?_); (case side1 => exact spec_DrawIsWithin.zI78 HI404); (case side2 => repeat (first | (with_reducible first | exact HB.out | apply below_alloc | apply pw_below_drewN | apply below_drew1 | refine below_set ?_ (IsS78.ge HI404.out)) | exact HB.out)); rintro e w21 ⟨v406, rfl, ho0, hi, hb, hk⟩; refine ⟨_, rfl, ?_⟩; have HO407 := Aside0.mk (Kd.R_lower ho0 (below_size (by repeat (first | (with_reducible first | exact HB.out | apply below_alloc | apply pw_below_drewN | apply below_drew1 | refine below_set ?_ (IsS78.ge HI404.out)) | exact HB.out)))); replace HB := Aside0.mk (hb); replace HI404 := Aside0.mk (hi); (try clear hb); (try clear ho0); obtain ⟨Ao22, co22, eo22⟩ := Kd.R_slice HO407.out; subst eo22) | ((with_reducible refine gate_callee (f := 52) rfl ?_); refine goesL_ (some 13) rfl rfl Try.func52 (by kernel_rfl) rfl #[.pointer (some ⟨g404, 0, none⟩), .slice Ao22 t405.length co22] rfl zG ?_; (with_reducible refine (spec_l8Next.calls g404 t401 t408 t409 _ _ t405 t410 t413 t414 w _ ?side1 ?side2 ?side3 ?side4 A4.out).mono ?_); (case side1 => exact spec_DrawIsWithin.zI78 HI404); (case side2 => repeat (first | (with_reducible first | exact HB.out | apply below_alloc | apply pw_below_drewN | apply below_drew1 | refine below_set ?_ (IsS78.ge HI404.out)) | exact HB.out)); (case side3 => exact Kd.C_foot_own (IsS78.apart (show IsS78 w _ g404 t401 t408 t409 from spec_DrawIsWithin.zI78 HI404) (zR HO407) (by decide)) (fun _ h_ => h_.2)); (case side4 => exact (Kd.R_reads' HO407.out).2.1); rintro e w23 ⟨v411, rfl, ho0, hi, hb, hk⟩; refine ⟨_, rfl, ?_⟩; have HO412 := Aside0.mk (Kd.R_lower (Kd.R_new' ho0 (Kd.R_lt (zR HO407))) (below_size (by repeat (first | (with_reducible first | exact HB.out | apply below_alloc | apply pw_below_drewN | apply below_drew1 | refine below_set ?_ (IsS78.ge HI404.out)) | exact HB.out)))); replace HO407 := Aside0.mk (Kd.R_mono (Kd.R_told (Kd.R_oldK (IsS78.apart (show IsS78 w _ g404 t401 t408 t409 from spec_DrawIsWithin.zI78 HI404) (zR HO407) (by decide)) hk) (Kd.R_base ho0)) (fun _ h_ => h_.1)); replace HB := Aside0.mk (hb); replace HI404 := Aside0.mk (hi); (try clear hb); (try clear ho0)) | ((with_reducible refine gate_callee (f := 53) rfl ?_); refine goesL_ (some 15) rfl rfl Try.func53 (by kernel_rfl) rfl #[.pointer (some ⟨g404, 0, none⟩), .int .i64 8] rfl zG ?_; (with_reducible refine (spec_l1Below.calls g404 t401 t413 t414 8 t415 t416 t417 w _ ?side1 ?side2 A5.out).mono ?_); (case side1 => exact spec_DrawIsWithin.zI78 HI404); (case side2 => repeat (first | (with_reducible first | exact HB.out | apply below_alloc | apply pw_below_drewN | apply below_drew1 | refine below_set ?_ (IsS78.ge HI404.out)) | exact HB.out)); rintro e w24 ⟨rfl, hi, hb, hk⟩; refine ⟨_, rfl, ?_⟩; replace HO407 := Aside0.mk (Kd.R_mono (Kd.R_keep (IsS78.apart (show IsS78 w _ g404 t401 t413 t414 from spec_DrawIsWithin.zI78 HI404) (zR HO407) (by decide)) hk (fun _ h => h.2)) (fun _ h => h.1)); replace HO412 := Aside0.mk (Kd.R_mono (Kd.R_keep (IsS78.apart (show IsS78 w _ g404 t401 t413 t414 from spec_DrawIsWithin.zI78 HI404) (zR HO412) (by decide)) hk (fun _ h => h.2)) (fun _ h => h.1)); replace HB := Aside0.mk (hb); replace HI404 := Aside0.mk (hi); (try clear hb)))
   go_ret2
   exact ⟨_, _, zE, by (with_reducible repeat (first | apply Kd.R_alloc | apply Kd.R_drewN | apply Kd.R_drew)); exact Kd.R_mono HO407.out (fun _ hk => hk.2), by (with_reducible repeat (first | apply Kd.R_alloc | apply Kd.R_drewN | apply Kd.R_drew)); exact Kd.R_mono HO412.out (fun _ hk => hk.2), by repeat (first | (with_reducible first | exact HB.out | apply below_alloc | apply pw_below_drewN | apply below_drew1 | refine below_set ?_ (IsS78.ge HI404.out)) | exact HB.out)⟩

/-! ### spec_DrawBreakOf: function 14 -/
def spec_DrawBreakOf.f (k : Nat) (l0 : List Int) : Option ((List (S47)) × (List (S47))) := (spec_DrawIsWithin.f k l0).bind fun bt423 => (some (bt423.1, bt423.2))
theorem spec_DrawBreakOf.mono : ∀ a0 k, LeO (spec_DrawBreakOf.f k a0) (spec_DrawBreakOf.f (k + 1) a0) := by
 intro a0 k
 unfold spec_DrawBreakOf.f
 repeat' first
   | (with_reducible exact spec_DrawIsWithin.mono _ _)
   | (with_reducible exact LeO.refl _)
   | (with_reducible exact LeO.none _)
   | (with_reducible refine LeO.ite ?_ ?_)
   | (with_reducible refine LeO.bind ?_ (fun _ => ?_))
   | exact spec_DrawIsWithin.mono _ _
   | exact LeO.none _
   | refine LeO.ite ?_ ?_
   | refine LeO.bind ?_ (fun _ => ?_)
set_option maxHeartbeats 8000000 in
set_option maxRecDepth 100000 in
theorem spec_DrawBreakOf.calls (k : Nat) (A0 : Option Addr) (c0 : Nat) (l0 : List Int) (r1 : List (S47)) (r2 : List (S47)) (w : World) (hr0 : Kd.C (Kd.int .u8) w A0 l0.length l0) (hc0 : l0.length ≤ c0) (h : spec_DrawBreakOf.f k l0 = some (r1, r2)) :
  Calls Try.prog 14 #[.slice A0 l0.length c0] w fun e w' => ∃ v0_ v1_ : Value, e = .returned (.tuple #[v0_, v1_]) ∧ Kd.R k47 47 w' w.heap.size (fun k_ => some k_ ≠ (v1_ : Value).ownBlock) v0_ r1 ∧ Kd.R k47 47 w' w.heap.size (fun k_ => some k_ ≠ (v0_ : Value).ownBlock) v1_ r2 ∧ Below w.heap.size w w' := by
 have HR0 := Aside0.mk hr0
 have HC0 := Aside0.mk hc0
 clear hr0 hc0
 have HB := Aside0.mk (Below.refl w.heap.size w)
 have H : ((spec_DrawIsWithin.f k l0).bind fun bt423 => (some (bt423.1, bt423.2))) = some (r1, r2) := h
 clear h
 replace H := Option.bind_eq_some_iff.mp H
 obtain ⟨⟨t423, t424⟩, A20, H⟩ := H
 replace H : (some (t423, t424)) = some (r1, r2) := H
 have A2 := Aside0.mk A20
 clear A20
 simp only [Option.some.injEq, Prod.mk.injEq] at H
 obtain ⟨rfl, rfl⟩ := H
 go_enter Try.func14, Try.ntmps14
 go_wp2_with (first | ((with_reducible refine gate_callee (f := 34) rfl ?_); refine goesL_ (some 5) rfl rfl Try.func34 (by kernel_rfl) rfl #[.slice A0 l0.length c0] rfl zG ?_; (with_reducible refine (spec_DrawIsWithin.calls k _ _ l0 t423 t424 _ ?side1 ?side2 A2.out).mono ?_); (case side1 => exact cT HR0); (case side2 => exact HC0.out); rintro e w3 ⟨v425, v427, rfl, ho0, ho1, hb⟩; refine ⟨_, rfl, ?_⟩; have HO426 := Aside0.mk (Kd.R_lower ho0 (below_size (zB HB))); have HO428 := Aside0.mk (Kd.R_lower ho1 (below_size (zB HB))); replace HB := bS HB hb; (try clear hb); (try clear ho0); (try clear ho1)))
 go_ret2
 exact ⟨_, _, zE, by (with_reducible repeat (first | apply Kd.R_alloc | apply Kd.R_drewN | apply Kd.R_drew)); exact HO426.out, by (with_reducible repeat (first | apply Kd.R_alloc | apply Kd.R_drewN | apply Kd.R_drew)); exact HO428.out, zB HB⟩

/-! ### impl_Field: function 36 -/
def impl_Field.l0 : Nat → List (S47) → List (S47) → Int → Int → Option (Bool)
 | 0, _, _, _, _ => none
 | k + 1, x0, x1, x12, x13 => if x13 < x12 then (if 0 ≤ x13 then (if x13 < (x0.length : Int) then (if x13 < (x1.length : Int) then (if (!(((rd_T47 x0 x13).f0) == ((rd_T47 x1 x13).f0)) || (!(((rd_T47 x0 x13).f1) == ((rd_T47 x1 x13).f1)) || (!(((rd_T47 x0 x13).f2) == ((rd_T47 x1 x13).f2)) || (!(((rd_T47 x0 x13).f3) == ((rd_T47 x1 x13).f3)))))) = true then (some false) else (impl_Field.l0 k x0 x1 x12 (wrap64 (x13 + 1)))) else (none)) else (none)) else (none)) else (some true)
def impl_Field.f (k : Nat) (l0 : List (S47)) (l1 : List (S47)) : Option (Bool) := if (l0.length : Int) = (l1.length : Int) then (impl_Field.l0 k l0 l1 (l0.length : Int) 0) else (some false)
theorem impl_Field.mono_l : ∀ k, (∀ y0 y1 y2 y3, LeO (impl_Field.l0 k y0 y1 y2 y3) (impl_Field.l0 (k + 1) y0 y1 y2 y3))
 | 0 => fun _ _ _ _ r h => by simp [impl_Field.l0] at h
 | k + 1 => by
  have ih0 := impl_Field.mono_l k
  ·intro y0 y1 y2 y3
   unfold impl_Field.l0
   repeat' first
   | (with_reducible exact ih0 _ _ _ _)
   | (with_reducible exact LeO.refl _)
   | (with_reducible exact LeO.none _)
   | (with_reducible refine LeO.ite ?_ ?_)
   | (with_reducible refine LeO.bind ?_ (fun _ => ?_))
   | exact ih0 _ _ _ _
   | exact LeO.none _
   | refine LeO.ite ?_ ?_
   | refine LeO.bind ?_ (fun _ => ?_)
theorem impl_Field.mono : ∀ a0 a1 k, LeO (impl_Field.f k a0 a1) (impl_Field.f (k + 1) a0 a1) := by
 intro a0 a1 k
 have ih0 := impl_Field.mono_l k
 unfold impl_Field.f
 repeat' first
   | (with_reducible exact ih0 _ _ _ _)
   | (with_reducible exact LeO.refl _)
   | (with_reducible exact LeO.none _)
   | (with_reducible refine LeO.ite ?_ ?_)
   | (with_reducible refine LeO.bind ?_ (fun _ => ?_))
   | exact ih0 _ _ _ _
   | exact LeO.none _
   | refine LeO.ite ?_ ?_
   | refine LeO.bind ?_ (fun _ => ?_)
set_option maxHeartbeats 8000000 in
set_option maxRecDepth 100000 in
theorem impl_Field.calls (k : Nat) (A0 : Option Addr) (c0 : Nat) (l0 : List (S47)) (A1 : Option Addr) (c1 : Nat) (l1 : List (S47)) (r : Bool) (w : World) (hr0 : Kd.C k47 w A0 l0.length l0) (hc0 : l0.length ≤ c0) (hr1 : Kd.C k47 w A1 l1.length l1) (hc1 : l1.length ≤ c1) (h : impl_Field.f k l0 l1 = some r) :
  Calls Try.prog 36 #[.slice A0 l0.length c0, .slice A1 l1.length c1] w fun e w' => e = .returned (.bool r) ∧ Drawn0 w w' := by
 have hu47 := Try.underlying47
 have HR0 := Aside0.mk hr0
 have HC0 := Aside0.mk hc0
 clear hr0 hc0
 have HR1 := Aside0.mk hr1
 have HC1 := Aside0.mk hc1
 clear hr1 hc1
 have H : (if (l0.length : Int) = (l1.length : Int) then (impl_Field.l0 k l0 l1 (l0.length : Int) 0) else (some false)) = some r := h
 clear h
 by_cases c3 : (l0.length : Int) = (l1.length : Int)
 ·rw [if_pos c3] at H
  have c3b0 : ((l0.length : Int) == (l1.length : Int)) = true := beq_iff_eq.mpr c3
  have c3b1 : ((l0.length : Int) != (l1.length : Int)) = false := bne_eq_false_iff_eq.mpr c3
  have c3b2 : (l0.length == l1.length) = true := by first | simpa using c3 | (simp at c3 ⊢; omega)
  clear c3
  have H' := Aside0.mk H
  clear H
  go_enter Try.func36, Try.ntmps36
  go_wp2
  repeat (go_quiet (fail); try go_wp2)
  go_loopg [13] k (fun kq v13 w' => ∃ (x13_1 : Int), v13 = .int .i64 x13_1 ∧ Aside0 (impl_Field.l0 kq l0 l1 (l0.length : Int) x13_1 = some r) ∧ Aside0 (kq ≤ k) ∧ Drawn0 w w')
  case atStart => exact ⟨(0), zF, H', ⟨Nat.le_refl _⟩, by repeat (first | exact Drawn0.refl _ | apply Drawn0.step)⟩
  case round =>
   clear H'
   try clear c1
   try clear p2
   try clear c3
   try clear c3b0
   try clear c3b1
   try clear c3b2
   obtain ⟨x13_1, rfl, HA, HK1, ⟨m1, rfl⟩⟩ := hrel
   cases gk with
   | zero => exact absurd HA.out (by simp [impl_Field.l0])
   | succ k1 =>
    have H := HA.out
    clear HA
    simp only [impl_Field.l0] at H
    by_cases c4 : x13_1 < (l0.length : Int)
    ·rw [if_pos c4] at H
     have c4b0 : decide (x13_1 < (l0.length : Int)) = true := decide_eq_true c4
     clear c4
     obtain ⟨c5, H⟩ := ifS H
     have c5b0 : decide (0 ≤ x13_1) = true := decide_eq_true c5
     clear c5
     obtain ⟨c6, H⟩ := ifS H
     have c6b0 : decide (x13_1 < (l0.length : Int)) = true := decide_eq_true c6
     clear c6
     obtain ⟨c7, H⟩ := ifS H
     have c7b0 : decide (x13_1 < (l1.length : Int)) = true := decide_eq_true c7
     clear c7
     by_cases c8 : (!(((rd_T47 l0 x13_1).f0) == ((rd_T47 l1 x13_1).f0)) || (!(((rd_T47 l0 x13_1).f1) == ((rd_T47 l1 x13_1).f1)) || (!(((rd_T47 l0 x13_1).f2) == ((rd_T47 l1 x13_1).f2)) || (!(((rd_T47 l0 x13_1).f3) == ((rd_T47 l1 x13_1).f3)))))) = true
     ·rw [if_pos c8] at H
      have c8b0 : (!(((rd_T47 l0 x13_1).f0) == ((rd_T47 l1 x13_1).f0)) || (!(((rd_T47 l0 x13_1).f1) == ((rd_T47 l1 x13_1).f1)) || (!(((rd_T47 l0 x13_1).f2) == ((rd_T47 l1 x13_1).f2)) || (!(((rd_T47 l0 x13_1).f3) == ((rd_T47 l1 x13_1).f3)))))) = true := c8
      clear c8
      obtain rfl := Option.some.inj H
      have p429 : 0 ≤ (x13_1 : Int) := zD
      have q429 : x13_1 < (l0.length : Int) := zD
      obtain ⟨ad429, e429, hx429_0, hx429_1, hx429_2, hx429_3⟩ := at_T47 HR0.out x13_1 p429 q429
      cases e429
      replace p429 := eq_true p429
      replace q429 := eq_true q429
      have p430 : 0 ≤ (x13_1 : Int) := zD
      have q430 : x13_1 < (l1.length : Int) := zD
      obtain ⟨ad430, e430, hx430_0, hx430_1, hx430_2, hx430_3⟩ := at_T47 HR1.out x13_1 p430 q430
      cases e430
      replace p430 := eq_true p430
      replace q430 := eq_true q430
      go_wp2
      repeat (go_quiet (fail); try go_wp2)
      go_ret
      exact ⟨by first | rfl | (simp; done) | (simp [*]; done), by repeat (first | exact Drawn0.refl _ | apply Drawn0.step)⟩
     ·rw [if_neg c8] at H
      have c8b0 : (!(((rd_T47 l0 x13_1).f0) == ((rd_T47 l1 x13_1).f0)) || (!(((rd_T47 l0 x13_1).f1) == ((rd_T47 l1 x13_1).f1)) || (!(((rd_T47 l0 x13_1).f2) == ((rd_T47 l1 x13_1).f2)) || (!(((rd_T47 l0 x13_1).f3) == ((rd_T47 l1 x13_1).f3)))))) = false := by simpa using c8
      clear c8
      have H' := Aside0.mk H
      clear H
      have p429 : 0 ≤ (x13_1 : Int) := zD
      have q429 : x13_1 < (l0.length : Int) := zD
      obtain ⟨ad429, e429, hx429_0, hx429_1, hx429_2, hx429_3⟩ := at_T47 HR0.out x13_1 p429 q429
      cases e429
      replace p429 := eq_true p429
      replace q429 := eq_true q429
      have p430 : 0 ≤ (x13_1 : Int) := zD
      have q430 : x13_1 < (l1.length : Int) := zD
      obtain ⟨ad430, e430, hx430_0, hx430_1, hx430_2, hx430_3⟩ := at_T47 HR1.out x13_1 p430 q430
      cases e430
      replace p430 := eq_true p430
      replace q430 := eq_true q430
      go_wp2
      repeat (go_quiet (fail); try go_wp2)
      go_roundg k1
      case measure => have := HK1.out; omega
      case rel => exact ⟨(wrap64 (x13_1 + 1)), zF, H', ⟨by have := HK1.out; omega⟩, by repeat (first | exact Drawn0.refl _ | apply Drawn0.step)⟩
    ·rw [if_neg c4] at H
     have c4b0 : decide (x13_1 < (l0.length : Int)) = false := decide_eq_false c4
     clear c4
     obtain rfl := Option.some.inj H
     go_wp2
     repeat (go_quiet (fail); try go_wp2)
     go_ret
     exact ⟨by first | rfl | (simp; done) | (simp [*]; done), by repeat (first | exact Drawn0.refl _ | apply Drawn0.step)⟩
 ·rw [if_neg c3] at H
  have c3b0 : ((l0.length : Int) == (l1.length : Int)) = false := beq_eq_false_iff_ne.mpr c3
  have c3b1 : ((l0.length : Int) != (l1.length : Int)) = true := bne_iff_ne.mpr c3
  have c3b2 : (l0.length == l1.length) = false := by first | simpa using c3 | (simp at c3 ⊢; omega)
  obtain rfl := Option.some.inj H
  go_enter Try.func36, Try.ntmps36
  go_wp2
  repeat (go_quiet (fail); try go_wp2)
  go_ret
  exact ⟨by first | rfl | (simp; done) | (simp [*]; done), by repeat (first | exact Drawn0.refl _ | apply Drawn0.step)⟩

/-! ### impl_EqualFormats: function 18 -/
def impl_EqualFormats.f (k : Nat) (l0 : List (S47)) (l1 : List (S47)) : Option (Bool) := (impl_Field.f k l0 l1).bind fun t431 => (some t431)
theorem impl_EqualFormats.mono : ∀ a0 a1 k, LeO (impl_EqualFormats.f k a0 a1) (impl_EqualFormats.f (k + 1) a0 a1) := by
 intro a0 a1 k
 unfold impl_EqualFormats.f
 repeat' first
   | (with_reducible exact impl_Field.mono _ _ _)
   | (with_reducible exact LeO.refl _)
   | (with_reducible exact LeO.none _)
   | (with_reducible refine LeO.ite ?_ ?_)
   | (with_reducible refine LeO.bind ?_ (fun _ => ?_))
   | exact impl_Field.mono _ _ _
   | exact LeO.none _
   | refine LeO.ite ?_ ?_
   | refine LeO.bind ?_ (fun _ => ?_)
set_option maxHeartbeats 8000000 in
set_option maxRecDepth 100000 in
theorem impl_EqualFormats.calls (k : Nat) (A0 : Option Addr) (c0 : Nat) (l0 : List (S47)) (A1 : Option Addr) (c1 : Nat) (l1 : List (S47)) (r : Bool) (w : World) (hr0 : Kd.C k47 w A0 l0.length l0) (hc0 : l0.length ≤ c0) (hr1 : Kd.C k47 w A1 l1.length l1) (hc1 : l1.length ≤ c1) (h : impl_EqualFormats.f k l0 l1 = some r) :
  Calls Try.prog 18 #[.slice A0 l0.length c0, .slice A1 l1.length c1] w fun e w' => e = .returned (.bool r) ∧ Drawn0 w w' := by
 have HR0 := Aside0.mk hr0
 have HC0 := Aside0.mk hc0
 clear hr0 hc0
 have HR1 := Aside0.mk hr1
 have HC1 := Aside0.mk hc1
 clear hr1 hc1
 have H : ((impl_Field.f k l0 l1).bind fun t431 => (some t431)) = some r := h
 clear h
 obtain ⟨t431, A3, H⟩ := bindS H
 obtain rfl := Option.some.inj H
 go_enter Try.func18, Try.ntmps18
 go_wp2_with (first | ((with_reducible refine gate_callee (f := 36) rfl ?_); refine goesL_ (some 7) rfl rfl Try.func36 (by kernel_rfl) rfl #[.slice A0 l0.length c0, .slice A1 l1.length c1] rfl zG ?_; (with_reducible refine (impl_Field.calls k _ _ l0 _ _ l1 t431 _ ?side1 ?side2 ?side3 ?side4 A3.out).mono ?_); (case side1 => exact cT HR0); (case side2 => exact HC0.out); (case side3 => exact cT HR1); (case side4 => exact HC1.out); rintro e w' ⟨rfl, ⟨nd, rfl⟩⟩; refine ⟨_, rfl, ?_⟩))
 go_ret
 exact ⟨by first | rfl | (simp; done) | (simp [*]; done), by repeat (first | exact Drawn0.refl _ | apply Drawn0.step)⟩

end Go.Proofs.Yticpmgofegaaeaa.PFnDiffers
