-- WRITTEN by pp.py, this session's own wrapper around the print; not trusted: Lean checks it
import Derived.Test.YtjlaogjikkckkaaPFnMachinesx0
import Derived.Test.YtjlaogjikkckkaaPFnMachinesx2
import Derived.Test.YtjlaogjikkckkaaPFnMachinesx3
import Derived.Test.YtjlaogjikkckkaaPFnMachinesx6
import Derived.Test.YtjlaogjikkckkaaPFnMachinesx7
import Derived.Test.YtjlaogjikkckkaaPFnMachinesx8
import Derived.Test.YtjlaogjikkckkaaPFnMachinesx9
namespace Go.Proofs.Ytjlaogjikkckkaa.PFnMachines
open Go.RowKit Go.Proofs.Ytjlaogjikkckkaa.Hw Go.Proofs.YtjlaogjikkckkaaW.PrintWords Go.Proofs.YtjlaogjikkckkaaW.PrintLast Go.Proofs.YtjlaogjikkckkaaW.PrintMore
attribute [local go_sem] max2_int min2_int max_two min_two max_three min_three max_four min_four   -- for this text's walks alone
set_option linter.unusedVariables false
set_option linter.unusedSimpArgs false
set_option linter.unusedSectionVars false

/-! ### laws_FnMachines: function 4 -/
mutual
def laws_FnMachines.j0 : Nat → List Int → List Int → Bool → Int → List Bool → List (S54) → Int → List Bool → List (S54) → Option (Bool)
 | 0, _, _, _, _, _, _, _, _, _ => none
 | k + 1, x0, x4, x34, x360000, x360001, x360002, x368000, x368001, x368002 => if x34 = true then (some false) else (laws_FnMachines.l0 k x0 x4 (([] : List Int)) 0 x360000 x360001 x360002 x368000 x368001 x368002)
def laws_FnMachines.l0 : Nat → List Int → List Int → List Int → Int → Int → List Bool → List (S54) → Int → List Bool → List (S54) → Option (Bool)
 | 0, _, _, _, _, _, _, _, _, _, _ => none
 | k + 1, x0, x4, x6, x7, x360000, x360001, x360002, x368000, x368001, x368002 => if x7 < (x4.length : Int) then (if 0 ≤ x7 then (if x6.length < 17592186044416 then (laws_FnMachines.l0 k x0 x4 (x6 ++ [wrap64 (-(wrap64 ((rd x4 x7) + 1)))]) (wrap64 (x7 + 1)) x360000 x360001 x360002 x368000 x368001 x368002) else (none)) else (none)) else ((impl_RunMachine.f k x360000 x360001 x360002 x4).bind fun t385 => ((impl_RunMachine.f k x368000 x368001 x368002 x6).bind fun t386 => (if t385 = t386 then (if t385 ≥ 0 then ((impl_IsMachine.f k x360000 x360001 x360002).bind fun t387 => (if t387 = true then (laws_FnMachines.j2 k x0 (decide (t385 ≥ x360000))) else (laws_FnMachines.j2 k x0 true))) else (laws_FnMachines.j2 k x0 false)) else (laws_FnMachines.j2 k x0 true))))
def laws_FnMachines.j2 : Nat → List Int → Bool → Option (Bool)
 | 0, _, _ => none
 | k + 1, x0, x73 => if x73 = true then (some false) else ((spec_DrawMovesFrom.f k x0).bind fun bt388 => ((impl_MovesFrom.f k bt388.1 bt388.2.1 bt388.2.2.1 bt388.2.2.2.1 bt388.2.2.2.2).bind fun t398 => (laws_FnMachines.l1 k bt388.2.2.2.1 bt388.2.2.2.2 t398 0 bt388.1 bt388.2.1 bt388.2.2.1)))
def laws_FnMachines.l1 : Nat → Int → Bool → List Int → Int → Int → List Bool → List (S54) → Option (Bool)
 | 0, _, _, _, _, _, _, _ => none
 | k + 1, x10, x11, x12, x13, x398000, x398001, x398002 => if x13 < (x12.length : Int) then (if 0 ≤ x13 then ((impl_MoveOf.f x398000 x398001 x398002 x10 x11 (rd x12 x13)).bind fun t402 => (if t402 < 0 then (some false) else (if x13 > 0 then (if 0 ≤ (wrap64 (x13 - 1)) then (if (wrap64 (x13 - 1)) < (x12.length : Int) then (if (rd x12 (wrap64 (x13 - 1))) ≥ (rd x12 x13) then (some false) else (laws_FnMachines.l1 k x10 x11 x12 (wrap64 (x13 + 1)) x398000 x398001 x398002)) else (none)) else (none)) else (laws_FnMachines.l1 k x10 x11 x12 (wrap64 (x13 + 1)) x398000 x398001 x398002)))) else (none)) else (some true)
end
def laws_FnMachines.f (k : Nat) (l0 : List Int) : Option (Bool) := (laws_big.f l0).bind fun t348 => (if t348 = true then (some true) else ((spec_DrawRunMachine.f k l0).bind fun bt349 => ((impl_DualOf.f k bt349.1 bt349.2.1 bt349.2.2.1).bind fun bt360 => ((impl_DualOf.f k bt360.1 bt360.2.1 bt360.2.2).bind fun bt368 => ((impl_EqualMachines.f k bt368.1 bt368.2.1 bt368.2.2 bt349.1 bt349.2.1 bt349.2.2.1).bind fun t375 => (if t375 = true then ((impl_IsMachine.f k bt360.1 bt360.2.1 bt360.2.2).bind fun t376 => ((impl_IsMachine.f k bt349.1 bt349.2.1 bt349.2.2.1).bind fun t377 => (laws_FnMachines.j0 k l0 bt349.2.2.2 (t376 != t377) bt349.1 bt349.2.1 bt349.2.2.1 bt360.1 bt360.2.1 bt360.2.2))) else (laws_FnMachines.j0 k l0 bt349.2.2.2 true bt349.1 bt349.2.1 bt349.2.2.1 bt360.1 bt360.2.1 bt360.2.2)))))))
theorem laws_FnMachines.mono_l : ∀ k, (∀ y0 y1 y2 y3 y4 y5 y6 y7 y8, LeO (laws_FnMachines.j0 k y0 y1 y2 y3 y4 y5 y6 y7 y8) (laws_FnMachines.j0 (k + 1) y0 y1 y2 y3 y4 y5 y6 y7 y8)) ∧ (∀ y0 y1 y2 y3 y4 y5 y6 y7 y8 y9, LeO (laws_FnMachines.l0 k y0 y1 y2 y3 y4 y5 y6 y7 y8 y9) (laws_FnMachines.l0 (k + 1) y0 y1 y2 y3 y4 y5 y6 y7 y8 y9)) ∧ (∀ y0 y1, LeO (laws_FnMachines.j2 k y0 y1) (laws_FnMachines.j2 (k + 1) y0 y1)) ∧ (∀ y0 y1 y2 y3 y4 y5 y6, LeO (laws_FnMachines.l1 k y0 y1 y2 y3 y4 y5 y6) (laws_FnMachines.l1 (k + 1) y0 y1 y2 y3 y4 y5 y6))
 | 0 => ⟨fun _ _ _ _ _ _ _ _ _ r h => by simp [laws_FnMachines.j0] at h, fun _ _ _ _ _ _ _ _ _ _ r h => by simp [laws_FnMachines.l0] at h, fun _ _ r h => by simp [laws_FnMachines.j2] at h, fun _ _ _ _ _ _ _ r h => by simp [laws_FnMachines.l1] at h⟩
 | k + 1 => by
  obtain ⟨ih0, ih1, ih2, ih3⟩ := laws_FnMachines.mono_l k
  refine ⟨?_, ?_, ?_, ?_⟩
  ·intro y0 y1 y2 y3 y4 y5 y6 y7 y8
   unfold laws_FnMachines.j0
   repeat' first
   | (with_reducible exact ih0 _ _ _ _ _ _ _ _ _)
   | (with_reducible exact ih1 _ _ _ _ _ _ _ _ _ _)
   | (with_reducible exact ih2 _ _)
   | (with_reducible exact ih3 _ _ _ _ _ _ _)
   | (with_reducible exact impl_DualOf.mono _ _ _ _)
   | (with_reducible exact impl_EqualMachines.mono _ _ _ _ _ _ _)
   | (with_reducible exact impl_IsMachine.mono _ _ _ _)
   | (with_reducible exact impl_MovesFrom.mono _ _ _ _ _ _)
   | (with_reducible exact impl_RunMachine.mono _ _ _ _ _)
   | (with_reducible exact spec_DrawMovesFrom.mono _ _)
   | (with_reducible exact spec_DrawRunMachine.mono _ _)
   | (with_reducible exact LeO.refl _)
   | (with_reducible exact LeO.none _)
   | (with_reducible refine LeO.ite ?_ ?_)
   | (with_reducible refine LeO.bind ?_ (fun _ => ?_))
   | exact ih0 _ _ _ _ _ _ _ _ _
   | exact ih1 _ _ _ _ _ _ _ _ _ _
   | exact ih2 _ _
   | exact ih3 _ _ _ _ _ _ _
   | exact impl_DualOf.mono _ _ _ _
   | exact impl_EqualMachines.mono _ _ _ _ _ _ _
   | exact impl_IsMachine.mono _ _ _ _
   | exact impl_MovesFrom.mono _ _ _ _ _ _
   | exact impl_RunMachine.mono _ _ _ _ _
   | exact spec_DrawMovesFrom.mono _ _
   | exact spec_DrawRunMachine.mono _ _
   | exact LeO.none _
   | refine LeO.ite ?_ ?_
   | refine LeO.bind ?_ (fun _ => ?_)
  ·intro y0 y1 y2 y3 y4 y5 y6 y7 y8 y9
   unfold laws_FnMachines.l0
   repeat' first
   | (with_reducible exact ih0 _ _ _ _ _ _ _ _ _)
   | (with_reducible exact ih1 _ _ _ _ _ _ _ _ _ _)
   | (with_reducible exact ih2 _ _)
   | (with_reducible exact ih3 _ _ _ _ _ _ _)
   | (with_reducible exact impl_DualOf.mono _ _ _ _)
   | (with_reducible exact impl_EqualMachines.mono _ _ _ _ _ _ _)
   | (with_reducible exact impl_IsMachine.mono _ _ _ _)
   | (with_reducible exact impl_MovesFrom.mono _ _ _ _ _ _)
   | (with_reducible exact impl_RunMachine.mono _ _ _ _ _)
   | (with_reducible exact spec_DrawMovesFrom.mono _ _)
   | (with_reducible exact spec_DrawRunMachine.mono _ _)
   | (with_reducible exact LeO.refl _)
   | (with_reducible exact LeO.none _)
   | (with_reducible refine LeO.ite ?_ ?_)
   | (with_reducible refine LeO.bind ?_ (fun _ => ?_))
   | exact ih0 _ _ _ _ _ _ _ _ _
   | exact ih1 _ _ _ _ _ _ _ _ _ _
   | exact ih2 _ _
   | exact ih3 _ _ _ _ _ _ _
   | exact impl_DualOf.mono _ _ _ _
   | exact impl_EqualMachines.mono _ _ _ _ _ _ _
   | exact impl_IsMachine.mono _ _ _ _
   | exact impl_MovesFrom.mono _ _ _ _ _ _
   | exact impl_RunMachine.mono _ _ _ _ _
   | exact spec_DrawMovesFrom.mono _ _
   | exact spec_DrawRunMachine.mono _ _
   | exact LeO.none _
   | refine LeO.ite ?_ ?_
   | refine LeO.bind ?_ (fun _ => ?_)
  ·intro y0 y1
   unfold laws_FnMachines.j2
   repeat' first
   | (with_reducible exact ih0 _ _ _ _ _ _ _ _ _)
   | (with_reducible exact ih1 _ _ _ _ _ _ _ _ _ _)
   | (with_reducible exact ih2 _ _)
   | (with_reducible exact ih3 _ _ _ _ _ _ _)
   | (with_reducible exact impl_DualOf.mono _ _ _ _)
   | (with_reducible exact impl_EqualMachines.mono _ _ _ _ _ _ _)
   | (with_reducible exact impl_IsMachine.mono _ _ _ _)
   | (with_reducible exact impl_MovesFrom.mono _ _ _ _ _ _)
   | (with_reducible exact impl_RunMachine.mono _ _ _ _ _)
   | (with_reducible exact spec_DrawMovesFrom.mono _ _)
   | (with_reducible exact spec_DrawRunMachine.mono _ _)
   | (with_reducible exact LeO.refl _)
   | (with_reducible exact LeO.none _)
   | (with_reducible refine LeO.ite ?_ ?_)
   | (with_reducible refine LeO.bind ?_ (fun _ => ?_))
   | exact ih0 _ _ _ _ _ _ _ _ _
   | exact ih1 _ _ _ _ _ _ _ _ _ _
   | exact ih2 _ _
   | exact ih3 _ _ _ _ _ _ _
   | exact impl_DualOf.mono _ _ _ _
   | exact impl_EqualMachines.mono _ _ _ _ _ _ _
   | exact impl_IsMachine.mono _ _ _ _
   | exact impl_MovesFrom.mono _ _ _ _ _ _
   | exact impl_RunMachine.mono _ _ _ _ _
   | exact spec_DrawMovesFrom.mono _ _
   | exact spec_DrawRunMachine.mono _ _
   | exact LeO.none _
   | refine LeO.ite ?_ ?_
   | refine LeO.bind ?_ (fun _ => ?_)
  ·intro y0 y1 y2 y3 y4 y5 y6
   unfold laws_FnMachines.l1
   repeat' first
   | (with_reducible exact ih0 _ _ _ _ _ _ _ _ _)
   | (with_reducible exact ih1 _ _ _ _ _ _ _ _ _ _)
   | (with_reducible exact ih2 _ _)
   | (with_reducible exact ih3 _ _ _ _ _ _ _)
   | (with_reducible exact impl_DualOf.mono _ _ _ _)
   | (with_reducible exact impl_EqualMachines.mono _ _ _ _ _ _ _)
   | (with_reducible exact impl_IsMachine.mono _ _ _ _)
   | (with_reducible exact impl_MovesFrom.mono _ _ _ _ _ _)
   | (with_reducible exact impl_RunMachine.mono _ _ _ _ _)
   | (with_reducible exact spec_DrawMovesFrom.mono _ _)
   | (with_reducible exact spec_DrawRunMachine.mono _ _)
   | (with_reducible exact LeO.refl _)
   | (with_reducible exact LeO.none _)
   | (with_reducible refine LeO.ite ?_ ?_)
   | (with_reducible refine LeO.bind ?_ (fun _ => ?_))
   | exact ih0 _ _ _ _ _ _ _ _ _
   | exact ih1 _ _ _ _ _ _ _ _ _ _
   | exact ih2 _ _
   | exact ih3 _ _ _ _ _ _ _
   | exact impl_DualOf.mono _ _ _ _
   | exact impl_EqualMachines.mono _ _ _ _ _ _ _
   | exact impl_IsMachine.mono _ _ _ _
   | exact impl_MovesFrom.mono _ _ _ _ _ _
   | exact impl_RunMachine.mono _ _ _ _ _
   | exact spec_DrawMovesFrom.mono _ _
   | exact spec_DrawRunMachine.mono _ _
   | exact LeO.none _
   | refine LeO.ite ?_ ?_
   | refine LeO.bind ?_ (fun _ => ?_)
theorem laws_FnMachines.mono : ∀ a0 k, LeO (laws_FnMachines.f k a0) (laws_FnMachines.f (k + 1) a0) := by
 intro a0 k
 obtain ⟨ih0, ih1, ih2, ih3⟩ := laws_FnMachines.mono_l k
 unfold laws_FnMachines.f
 repeat' first
   | (with_reducible exact ih0 _ _ _ _ _ _ _ _ _)
   | (with_reducible exact ih1 _ _ _ _ _ _ _ _ _ _)
   | (with_reducible exact ih2 _ _)
   | (with_reducible exact ih3 _ _ _ _ _ _ _)
   | (with_reducible exact impl_DualOf.mono _ _ _ _)
   | (with_reducible exact impl_EqualMachines.mono _ _ _ _ _ _ _)
   | (with_reducible exact impl_IsMachine.mono _ _ _ _)
   | (with_reducible exact impl_MovesFrom.mono _ _ _ _ _ _)
   | (with_reducible exact impl_RunMachine.mono _ _ _ _ _)
   | (with_reducible exact spec_DrawMovesFrom.mono _ _)
   | (with_reducible exact spec_DrawRunMachine.mono _ _)
   | (with_reducible exact LeO.refl _)
   | (with_reducible exact LeO.none _)
   | (with_reducible refine LeO.ite ?_ ?_)
   | (with_reducible refine LeO.bind ?_ (fun _ => ?_))
   | exact ih0 _ _ _ _ _ _ _ _ _
   | exact ih1 _ _ _ _ _ _ _ _ _ _
   | exact ih2 _ _
   | exact ih3 _ _ _ _ _ _ _
   | exact impl_DualOf.mono _ _ _ _
   | exact impl_EqualMachines.mono _ _ _ _ _ _ _
   | exact impl_IsMachine.mono _ _ _ _
   | exact impl_MovesFrom.mono _ _ _ _ _ _
   | exact impl_RunMachine.mono _ _ _ _ _
   | exact spec_DrawMovesFrom.mono _ _
   | exact spec_DrawRunMachine.mono _ _
   | exact LeO.none _
   | refine LeO.ite ?_ ?_
   | refine LeO.bind ?_ (fun _ => ?_)
def laws_FnMachines.T5 : Bool × List (List Nat × List Nat) := (true, [([], []), ([0], [0]), ([], []), ([1, 2, 1], [1, 2]), ([3], [3]), ([4, 3], [4]), ([5], [5]), ([6, 5, 5], [5, 6]), ([5], [5]), ([8, 7, 5], [5, 8]), ([7, 9, 5], [5, 7, 9]), ([5, 10], [5, 10])])
def laws_FnMachines.B5 : List Nat := [0, 1, 0, 7, 15, 31, 63, 127, 63, 511, 1023, 2047]
theorem laws_FnMachines.tab5 : rtab .any (opsOf Try.f4 5) = laws_FnMachines.T5 := by kernel_rfl
theorem laws_FnMachines.bits5 : waitsOk laws_FnMachines.T5.2 laws_FnMachines.B5 = true := by kernel_rfl
def laws_FnMachines.T20 : Bool × List (List Nat × List Nat) := (true, [([], []), ([], []), ([], []), ([], []), ([], []), ([3, 4], [3, 4]), ([5], [5]), ([0, 1, 2, 6], [0, 1, 2, 6]), ([7], [7]), ([8, 7], [8]), ([9], [9]), ([10, 9], [9, 10]), ([11, 9, 9], [9, 11]), ([12], [12]), ([12], [12]), ([14, 12], [12, 14]), ([13, 15, 12], [12, 13, 15]), ([16, 12], [12, 16]), ([12], [12]), ([12], [12]), ([18, 19, 12], [12, 18, 19]), ([20, 12], [12, 20]), ([17, 21, 12], [12, 17, 21]), ([12, 22, 9], [9, 12, 22]), ([9, 23], [9, 23])])
def laws_FnMachines.B20 : List Nat := [0, 0, 0, 0, 0, 24, 56, 127, 255, 511, 1023, 2047, 4095, 8191, 8191, 24575, 65535, 131071, 8191, 8191, 794623, 1843199, 4194303, 8388607, 16777215]
theorem laws_FnMachines.tab20 : rtab .any (opsOf Try.f4 20) = laws_FnMachines.T20 := by kernel_rfl
theorem laws_FnMachines.bits20 : waitsOk laws_FnMachines.T20.2 laws_FnMachines.B20 = true := by kernel_rfl
set_option maxHeartbeats 8000000 in
set_option maxRecDepth 100000 in
theorem laws_FnMachines.calls (k : Nat) (A0 : Option Addr) (c0 : Nat) (l0 : List Int) (r : Bool) (w : World) (hr0 : Kd.C (Kd.int .u8) w A0 l0.length l0) (hc0 : l0.length ≤ c0) (ht_ : r = true) (h : laws_FnMachines.f k l0 = some r) :
  Calls Try.prog 4 #[.slice A0 l0.length c0] w fun e w' => e = .returned (.bool r) ∧ Below w.heap.size w w' := by
 have hu29 := Try.underlying29
 have HR0 := Aside0.mk hr0
 have HC0 := Aside0.mk hc0
 clear hr0 hc0
 have HB := Aside0.mk (Below.refl w.heap.size w)
 have H : ((laws_big.f l0).bind fun t348 => (if t348 = true then (some true) else ((spec_DrawRunMachine.f k l0).bind fun bt349 => ((impl_DualOf.f k bt349.1 bt349.2.1 bt349.2.2.1).bind fun bt360 => ((impl_DualOf.f k bt360.1 bt360.2.1 bt360.2.2).bind fun bt368 => ((impl_EqualMachines.f k bt368.1 bt368.2.1 bt368.2.2 bt349.1 bt349.2.1 bt349.2.2.1).bind fun t375 => (if t375 = true then ((impl_IsMachine.f k bt360.1 bt360.2.1 bt360.2.2).bind fun t376 => ((impl_IsMachine.f k bt349.1 bt349.2.1 bt349.2.2.1).bind fun t377 => (laws_FnMachines.j0 k l0 bt349.2.2.2 (t376 != t377) bt349.1 bt349.2.1 bt349.2.2.1 bt360.1 bt360.2.1 bt360.2.2))) else (laws_FnMachines.j0 k l0 bt349.2.2.2 true bt349.1 bt349.2.1 bt349.2.2.1 bt360.1 bt360.2.1 bt360.2.2)))))))) = some r := h
 clear h
 replace H := Option.bind_eq_some_iff.mp H
 obtain ⟨t348, A20, H⟩ := H
 replace H : (if t348 = true then (some true) else ((spec_DrawRunMachine.f k l0).bind fun bt349 => ((impl_DualOf.f k bt349.1 bt349.2.1 bt349.2.2.1).bind fun bt360 => ((impl_DualOf.f k bt360.1 bt360.2.1 bt360.2.2).bind fun bt368 => ((impl_EqualMachines.f k bt368.1 bt368.2.1 bt368.2.2 bt349.1 bt349.2.1 bt349.2.2.1).bind fun t375 => (if t375 = true then ((impl_IsMachine.f k bt360.1 bt360.2.1 bt360.2.2).bind fun t376 => ((impl_IsMachine.f k bt349.1 bt349.2.1 bt349.2.2.1).bind fun t377 => (laws_FnMachines.j0 k l0 bt349.2.2.2 (t376 != t377) bt349.1 bt349.2.1 bt349.2.2.1 bt360.1 bt360.2.1 bt360.2.2))) else (laws_FnMachines.j0 k l0 bt349.2.2.2 true bt349.1 bt349.2.1 bt349.2.2.1 bt360.1 bt360.2.1 bt360.2.2))))))) = some r := H
 have A2 := Aside0.mk A20
 clear A20
 by_cases c3 : t348 = true
 ·subst c3
  have H1 : (some true) = some r := by rw [if_pos rfl] at H; exact H
  clear H
  have H := H1
  clear H1
  obtain rfl := Option.some.inj H
  go_enter Try.func4, Try.ntmps4
  go_wp2_with (first | ((with_reducible refine gate_callee (f := 13) rfl ?_); refine goesL_ (some 15) rfl rfl Try.func13 (by kernel_rfl) rfl #[.slice A0 l0.length c0] rfl zG ?_; (with_reducible refine (laws_big.calls _ _ l0 true _ ?side1 ?side2 A2.out).mono ?_); (case side1 => exact cT HR0); (case side2 => exact HC0.out); rintro e w' ⟨rfl, ⟨nd, rfl⟩⟩; refine ⟨_, rfl, ?_⟩))
  go_ret
  exact ⟨by first | rfl | (simp [errW_none, errW_some] <;> rfl) | (simp [*, errW_none, errW_some] <;> rfl), by repeat (first | (with_reducible first | exact HB.out | apply below_alloc | apply pw_below_drewN | apply below_drew1) | exact HB.out)⟩
 ·replace c3 := Bool.eq_false_iff.mpr c3
  subst c3
  have H1 : ((spec_DrawRunMachine.f k l0).bind fun bt349 => ((impl_DualOf.f k bt349.1 bt349.2.1 bt349.2.2.1).bind fun bt360 => ((impl_DualOf.f k bt360.1 bt360.2.1 bt360.2.2).bind fun bt368 => ((impl_EqualMachines.f k bt368.1 bt368.2.1 bt368.2.2 bt349.1 bt349.2.1 bt349.2.2.1).bind fun t375 => (if t375 = true then ((impl_IsMachine.f k bt360.1 bt360.2.1 bt360.2.2).bind fun t376 => ((impl_IsMachine.f k bt349.1 bt349.2.1 bt349.2.2.1).bind fun t377 => (laws_FnMachines.j0 k l0 bt349.2.2.2 (t376 != t377) bt349.1 bt349.2.1 bt349.2.2.1 bt360.1 bt360.2.1 bt360.2.2))) else (laws_FnMachines.j0 k l0 bt349.2.2.2 true bt349.1 bt349.2.1 bt349.2.2.1 bt360.1 bt360.2.1 bt360.2.2)))))) = some r := by rw [if_neg (show ¬ (false = true) by decide)] at H; exact H
  clear H
  have H := H1
  clear H1
  replace H := Option.bind_eq_some_iff.mp H
  obtain ⟨⟨t349, t350, t353, t356⟩, A40, H⟩ := H
  replace H : ((impl_DualOf.f k t349 t350 t353).bind fun bt360 => ((impl_DualOf.f k bt360.1 bt360.2.1 bt360.2.2).bind fun bt368 => ((impl_EqualMachines.f k bt368.1 bt368.2.1 bt368.2.2 t349 t350 t353).bind fun t375 => (if t375 = true then ((impl_IsMachine.f k bt360.1 bt360.2.1 bt360.2.2).bind fun t376 => ((impl_IsMachine.f k t349 t350 t353).bind fun t377 => (laws_FnMachines.j0 k l0 t356 (t376 != t377) t349 t350 t353 bt360.1 bt360.2.1 bt360.2.2))) else (laws_FnMachines.j0 k l0 t356 true t349 t350 t353 bt360.1 bt360.2.1 bt360.2.2))))) = some r := H
  have A4 := Aside0.mk A40
  clear A40
  replace H := Option.bind_eq_some_iff.mp H
  obtain ⟨⟨t360, t361, t364⟩, A50, H⟩ := H
  replace H : ((impl_DualOf.f k t360 t361 t364).bind fun bt368 => ((impl_EqualMachines.f k bt368.1 bt368.2.1 bt368.2.2 t349 t350 t353).bind fun t375 => (if t375 = true then ((impl_IsMachine.f k t360 t361 t364).bind fun t376 => ((impl_IsMachine.f k t349 t350 t353).bind fun t377 => (laws_FnMachines.j0 k l0 t356 (t376 != t377) t349 t350 t353 t360 t361 t364))) else (laws_FnMachines.j0 k l0 t356 true t349 t350 t353 t360 t361 t364)))) = some r := H
  have A5 := Aside0.mk A50
  clear A50
  have HC6 := Aside0.mk H
  clear H
  go_enter Try.func4, Try.ntmps4
  go_upto_region 5 with (first | ((with_reducible refine gate_callee (f := 13) rfl ?_); refine goesL_ (some 15) rfl rfl Try.func13 (by kernel_rfl) rfl #[.slice A0 l0.length c0] rfl zG ?_; (with_reducible refine (laws_big.calls _ _ l0 false _ ?side1 ?side2 A2.out).mono ?_); (case side1 => exact cT HR0); (case side2 => exact HC0.out); rintro e w' ⟨rfl, ⟨nd, rfl⟩⟩; refine ⟨_, rfl, ?_⟩) | ((with_reducible refine gate_callee (f := 14) rfl ?_); refine goesL_ (some 18) rfl rfl Try.func14 (by kernel_rfl) rfl #[.slice A0 l0.length c0] rfl zG ?_; (with_reducible refine (spec_DrawRunMachine.calls k _ _ l0 t349 t350 t353 t356 _ ?side1 ?side2 A4.out).mono ?_); (case side1 => exact cT HR0); (case side2 => exact HC0.out); rintro e w7 ⟨v351, v354, v357, rfl, ho0, ho1, ho2, hb⟩; refine ⟨_, rfl, ?_⟩; have n0_ := Aside0.mk (Kd.R_lower ho0 (below_size (zB HB))); have n1_ := Aside0.mk (Kd.R_lower ho1 (below_size (zB HB))); have n2_ := Aside0.mk (Kd.R_lower ho2 (below_size (zB HB))); have n3_ := bS HB hb; clear HB; have HO352 := n0_; have HO355 := n1_; have HO358 := n2_; have HB := n3_; clear n0_ n1_ n2_ n3_; (try clear hb); (try clear ho0); (try clear ho1); (try clear ho2)) | ((with_reducible refine gate_dst (N := 3) rfl ?_); refine box_event ?hg (N := 3) ?hd (cs := #[.int .i64 0, .slice none 0 0, .slice none 0 0]) (t := 29) ?hr ?_; (case hd => rfl); (case hg => rfl); (case hr => first | (go_simp; done) | (go_simp; rfl)); intro gb359 hg w8 hbox hb; have n0_ := Aside0.mk (Kd.R_below (zR HO352) hb); have n1_ := Aside0.mk (Kd.R_below (zR HO355) hb); have n2_ := Aside0.mk (Kd.R_below (zR HO358) hb); have n3_ := bS HB hb; have n4_ := Aside0.mk (hbox); have n5_ := gS HB hg; have n6_ := gS HB hg; clear HO352; clear HO355; clear HO358; clear HB; have HO352 := n0_; have HO355 := n1_; have HO358 := n2_; have HB := n3_; have BK359 := n4_; have GW359 := n5_; have GE359 := n6_; clear n0_ n1_ n2_ n3_ n4_ n5_ n6_; clear hb hbox hg; have hcz9_0 := bc0 BK359; have hcz9_1 := bc1 BK359; have hcz9_2 := bc2 BK359; have hfz9_0 := bf BK359 0; have hfz9_1 := bf BK359 1; have hfz9_2 := bf BK359 2; obtain ⟨Ao10, co10, eo10⟩ := Kd.R_slice HO352.out; subst eo10; obtain ⟨Ao11, co11, eo11⟩ := Kd.R_slice HO355.out; subst eo11) | ((with_reducible refine gate_callee (f := 9) rfl ?_); refine goesL_ (some 22) rfl rfl Try.func9 (by kernel_rfl) rfl #[.agg #[.int .i64 t349, .slice Ao10 t350.length co10, .slice Ao11 t353.length co11]] rfl zG ?_; (with_reducible refine (impl_DualOf.calls k t349 _ _ t350 _ _ t353 t360 t361 t364 _ ?side1 ?side2 ?side3 ?side4 A5.out).mono ?_); (case side1 => refine (Kd.R_reads' (e := 4) (base := w.heap.size) (ok := fun k_ => True) (n := t350.length) (c := co10) ?_).2.2; exact (by (with_reducible repeat (first | apply Kd.R_alloc | apply Kd.R_drewN | apply Kd.R_drew)); exact (Kd.R_mono (Kd.R_far (p := ⟨gb359, 2, none⟩) (Kd.R_far (p := ⟨gb359, 1, none⟩) (Kd.R_far (p := ⟨gb359, 0, none⟩) (Kd.R_types HO352.out BK359.out (by decide)) (fun _ hk => hk.2) (.int .i64 t349)) (fun _ hk => hk.2) (.slice Ao10 t350.length co10)) (fun _ hk => hk.2) (.slice Ao11 t353.length co11)) (fun _ h_ => h_.1)))); (case side2 => exact (Kd.R_reads' HO352.out).2.1); (case side3 => refine (Kd.R_reads' (e := 54) (base := w.heap.size) (ok := fun k_ => True) (n := t353.length) (c := co11) ?_).2.2; exact (by (with_reducible repeat (first | apply Kd.R_alloc | apply Kd.R_drewN | apply Kd.R_drew)); exact (Kd.R_mono (Kd.R_far (p := ⟨gb359, 2, none⟩) (Kd.R_far (p := ⟨gb359, 1, none⟩) (Kd.R_far (p := ⟨gb359, 0, none⟩) (Kd.R_types HO355.out BK359.out (by decide)) (fun _ hk => hk.2) (.int .i64 t349)) (fun _ hk => hk.2) (.slice Ao10 t350.length co10)) (fun _ hk => hk.2) (.slice Ao11 t353.length co11)) (fun _ h_ => h_.1)))); (case side4 => exact (Kd.R_reads' HO355.out).2.1); rintro e w12 ⟨v362, v365, rfl, ho0, ho1, hb⟩; refine ⟨_, rfl, ?_⟩; have n0_ := Aside0.mk (Kd.R_elder' (by (with_reducible repeat (first | apply Kd.R_alloc | apply Kd.R_drewN | apply Kd.R_drew)); exact (Kd.R_mono (Kd.R_far (p := ⟨gb359, 2, none⟩) (Kd.R_far (p := ⟨gb359, 1, none⟩) (Kd.R_far (p := ⟨gb359, 0, none⟩) (Kd.R_types HO352.out BK359.out (by decide)) (fun _ hk => hk.2) (.int .i64 t349)) (fun _ hk => hk.2) (.slice Ao10 t350.length co10)) (fun _ hk => hk.2) (.slice Ao11 t353.length co11)) (fun _ h_ => h_.1))) (Kd.R_base ho0) hb); have n1_ := Aside0.mk (Kd.R_elder' (by (with_reducible repeat (first | apply Kd.R_alloc | apply Kd.R_drewN | apply Kd.R_drew)); exact (Kd.R_mono (Kd.R_far (p := ⟨gb359, 2, none⟩) (Kd.R_far (p := ⟨gb359, 1, none⟩) (Kd.R_far (p := ⟨gb359, 0, none⟩) (Kd.R_types HO355.out BK359.out (by decide)) (fun _ hk => hk.2) (.int .i64 t349)) (fun _ hk => hk.2) (.slice Ao10 t350.length co10)) (fun _ hk => hk.2) (.slice Ao11 t353.length co11)) (fun _ h_ => h_.1))) (Kd.R_base ho1) hb); have n2_ := Aside0.mk (Kd.R_below (by (with_reducible repeat (first | apply Kd.R_alloc | apply Kd.R_drewN | apply Kd.R_drew)); exact (Kd.R_mono (Kd.R_far (p := ⟨gb359, 2, none⟩) (Kd.R_far (p := ⟨gb359, 1, none⟩) (Kd.R_far (p := ⟨gb359, 0, none⟩) (Kd.R_types HO358.out BK359.out (by decide)) (fun _ hk => hk.2) (.int .i64 t349)) (fun _ hk => hk.2) (.slice Ao10 t350.length co10)) (fun _ hk => hk.2) (.slice Ao11 t353.length co11)) (fun _ h_ => h_.1))) hb); have n3_ := Aside0.mk (Kd.R_lower (Kd.R_new' ho0 (Kd.R_lt (by (with_reducible repeat (first | apply Kd.R_alloc | apply Kd.R_drewN | apply Kd.R_drew)); exact (Kd.R_mono (Kd.R_far (p := ⟨gb359, 2, none⟩) (Kd.R_far (p := ⟨gb359, 1, none⟩) (Kd.R_far (p := ⟨gb359, 0, none⟩) (Kd.R_types HO352.out BK359.out (by decide)) (fun _ hk => hk.2) (.int .i64 t349)) (fun _ hk => hk.2) (.slice Ao10 t350.length co10)) (fun _ hk => hk.2) (.slice Ao11 t353.length co11)) (fun _ h_ => h_.1))))) (below_size (zB HB))); have n4_ := Aside0.mk (Kd.R_lower (Kd.R_new' ho1 (Kd.R_lt (by (with_reducible repeat (first | apply Kd.R_alloc | apply Kd.R_drewN | apply Kd.R_drew)); exact (Kd.R_mono (Kd.R_far (p := ⟨gb359, 2, none⟩) (Kd.R_far (p := ⟨gb359, 1, none⟩) (Kd.R_far (p := ⟨gb359, 0, none⟩) (Kd.R_types HO355.out BK359.out (by decide)) (fun _ hk => hk.2) (.int .i64 t349)) (fun _ hk => hk.2) (.slice Ao10 t350.length co10)) (fun _ hk => hk.2) (.slice Ao11 t353.length co11)) (fun _ h_ => h_.1))))) (below_size (zB HB))); have n5_ := Aside0.mk (blk_below (g := gb359) (o := .cells #[.int .i64 t349, .slice Ao10 t350.length co10, .slice Ao11 t353.length co11] 29 (0, 0)) (by (with_reducible repeat (first | refine blk_drewN ?_ _ | refine blk_drew ?_ | refine blk_alloc ?_ _)); refine blk_put (cs := #[.int .i64 t349, .slice Ao10 t350.length co10, .slice none 0 0]) ?_ 2 _ rfl; (with_reducible repeat (first | refine blk_drewN ?_ _ | refine blk_drew ?_ | refine blk_alloc ?_ _)); refine blk_put (cs := #[.int .i64 t349, .slice none 0 0, .slice none 0 0]) ?_ 1 _ rfl; (with_reducible repeat (first | refine blk_drewN ?_ _ | refine blk_drew ?_ | refine blk_alloc ?_ _)); refine blk_put (cs := #[.int .i64 0, .slice none 0 0, .slice none 0 0]) ?_ 0 _ rfl; (with_reducible repeat (first | refine blk_drewN ?_ _ | refine blk_drew ?_ | refine blk_alloc ?_ _)); exact BK359.out) hb); have n6_ := bS HB hb; clear HO352; clear HO355; clear HO358; clear BK359; clear HB; have HO352 := n0_; have HO355 := n1_; have HO358 := n2_; have HO363 := n3_; have HO366 := n4_; have BK359 := n5_; have HB := n6_; clear n0_ n1_ n2_ n3_ n4_ n5_ n6_; (try clear hb); (try clear ho0); (try clear ho1)) | ((with_reducible refine gate_dst (N := 5) rfl ?_); refine box_event ?hg (N := 5) ?hd (cs := #[.int .i64 0, .slice none 0 0, .slice none 0 0]) (t := 29) ?hr ?_; (case hd => rfl); (case hg => rfl); (case hr => first | (go_simp; done) | (go_simp; rfl)); intro gb367 hg w13 hbox hb; have n0_ := Aside0.mk (Kd.R_below (zR HO352) hb); have n1_ := Aside0.mk (Kd.R_below (zR HO355) hb); have n2_ := Aside0.mk (Kd.R_below (zR HO358) hb); have n3_ := Aside0.mk (Kd.R_below (zR HO363) hb); have n4_ := Aside0.mk (Kd.R_below (zR HO366) hb); have n5_ := kB BK359 hb; have n6_ := bS HB hb; have n7_ := Aside0.mk (hbox); have n8_ := gS HB hg; have n9_ := gS HB hg; have n10_ := Aside0.mk ((by rw [hg]; exact Nat.ne_of_lt (blk_lt (g := gb359) (o := .cells #[.int .i64 t349, .slice Ao10 t350.length co10, .slice Ao11 t353.length co11] 29 (0, 0)) (zK BK359)) : gb359 ≠ gb367)); have n11_ := Aside0.mk ((by rw [hg]; exact Nat.ne_of_gt (blk_lt (g := gb359) (o := .cells #[.int .i64 t349, .slice Ao10 t350.length co10, .slice Ao11 t353.length co11] 29 (0, 0)) (zK BK359)) : gb367 ≠ gb359)); clear HO352; clear HO355; clear HO358; clear HO363; clear HO366; clear BK359; clear HB; have HO352 := n0_; have HO355 := n1_; have HO358 := n2_; have HO363 := n3_; have HO366 := n4_; have BK359 := n5_; have HB := n6_; have BK367 := n7_; have GW367 := n8_; have GE367 := n9_; have NB359_367 := n10_; have NB367_359 := n11_; clear n0_ n1_ n2_ n3_ n4_ n5_ n6_ n7_ n8_ n9_ n10_ n11_; clear hb hbox hg; have hnb14 := NB367_359.out; have hnc14 := NB359_367.out; have hcz15_0 := bc0 BK367; have hcz15_1 := bc1 BK367; have hcz15_2 := bc2 BK367; have hfz15_0 := bf BK367 0; have hfz15_1 := bf BK367 1; have hfz15_2 := bf BK367 2; obtain ⟨Ao16, co16, eo16⟩ := Kd.R_slice HO363.out; subst eo16; obtain ⟨Ao17, co17, eo17⟩ := Kd.R_slice HO366.out; subst eo17))
  (try simp only [Act.put, List.setIfInBounds_toArray, List.set_cons_zero, List.set_cons_succ])
  go_cut [34] (fun v34 wc => ∃ (kq : Nat) (x34_5 : Bool), v34 = .bool x34_5 ∧ Aside0 (laws_FnMachines.j0 kq l0 t356 x34_5 t349 t350 t353 t360 t361 t364 = some r) ∧ Aside0 (kq ≤ k) ∧ Aside0 (Kd.R (Kd.int .i64) 3 wc w.heap.size (fun _ => True) v357 t356) ∧ Aside0 (Kd.R Kd.bool 4 wc w.heap.size (fun k_ => some k_ ≠ ((.slice Ao16 t361.length co16) : Value).ownBlock) (.slice Ao10 t350.length co10) t350) ∧ Aside0 (Kd.R k54 54 wc w.heap.size (fun k_ => some k_ ≠ ((.slice Ao17 t364.length co17) : Value).ownBlock) (.slice Ao11 t353.length co11) t353) ∧ Aside0 (Kd.R Kd.bool 4 wc w.heap.size (fun k_ => some k_ ≠ ((.slice Ao10 t350.length co10) : Value).ownBlock) (.slice Ao16 t361.length co16) t361) ∧ Aside0 (Kd.R k54 54 wc w.heap.size (fun k_ => some k_ ≠ ((.slice Ao11 t353.length co11) : Value).ownBlock) (.slice Ao17 t364.length co17) t364) ∧ Aside0 (wc.heap[gb359]? = some (.cells #[.int .i64 t349, (.slice Ao10 t350.length co10), (.slice Ao11 t353.length co11)] 29 (0, 0))) ∧ Aside0 (wc.heap[gb367]? = some (.cells #[.int .i64 t360, (.slice Ao16 t361.length co16), (.slice Ao17 t364.length co17)] 29 (0, 0))) ∧ Aside0 (Below w.heap.size w wc))
  case first =>
   have H := HC6.out
   clear HC6
   replace H := Option.bind_eq_some_iff.mp H
   obtain ⟨⟨t368, t369, t372⟩, A180, H⟩ := H
   replace H : ((impl_EqualMachines.f k t368 t369 t372 t349 t350 t353).bind fun t375 => (if t375 = true then ((impl_IsMachine.f k t360 t361 t364).bind fun t376 => ((impl_IsMachine.f k t349 t350 t353).bind fun t377 => (laws_FnMachines.j0 k l0 t356 (t376 != t377) t349 t350 t353 t360 t361 t364))) else (laws_FnMachines.j0 k l0 t356 true t349 t350 t353 t360 t361 t364))) = some r := H
   have A18 := Aside0.mk A180
   clear A180
   replace H := Option.bind_eq_some_iff.mp H
   obtain ⟨t375, A190, H⟩ := H
   replace H : (if t375 = true then ((impl_IsMachine.f k t360 t361 t364).bind fun t376 => ((impl_IsMachine.f k t349 t350 t353).bind fun t377 => (laws_FnMachines.j0 k l0 t356 (t376 != t377) t349 t350 t353 t360 t361 t364))) else (laws_FnMachines.j0 k l0 t356 true t349 t350 t353 t360 t361 t364)) = some r := H
   have A19 := Aside0.mk A190
   clear A190
   by_cases c20 : t375 = true
   ·subst c20
    have H1 : ((impl_IsMachine.f k t360 t361 t364).bind fun t376 => ((impl_IsMachine.f k t349 t350 t353).bind fun t377 => (laws_FnMachines.j0 k l0 t356 (t376 != t377) t349 t350 t353 t360 t361 t364))) = some r := by rw [if_pos rfl] at H; exact H
    clear H
    have H := H1
    clear H1
    replace H := Option.bind_eq_some_iff.mp H
    obtain ⟨t376, A210, H⟩ := H
    replace H : ((impl_IsMachine.f k t349 t350 t353).bind fun t377 => (laws_FnMachines.j0 k l0 t356 (t376 != t377) t349 t350 t353 t360 t361 t364)) = some r := H
    have A21 := Aside0.mk A210
    clear A210
    replace H := Option.bind_eq_some_iff.mp H
    obtain ⟨t377, A220, H⟩ := H
    replace H : (laws_FnMachines.j0 k l0 t356 (t376 != t377) t349 t350 t353 t360 t361 t364) = some r := H
    have A22 := Aside0.mk A220
    clear A220
    have H' := Aside0.mk H
    clear H
    try go_wp2
    have n0_ : Aside0 (Kd.R Kd.bool 4 (((w13.setCell ⟨gb367, 0, none⟩ (.int .i64 t360)).setCell ⟨gb367, 1, none⟩ (.slice Ao16 t361.length co16)).setCell ⟨gb367, 2, none⟩ (.slice Ao17 t364.length co17)) w.heap.size (fun k_ => some k_ ≠ (.slice Ao16 t361.length co16 : Value).ownBlock) (.slice Ao10 t350.length co10) t350) := ⟨by (with_reducible repeat (first | apply Kd.R_alloc | apply Kd.R_drewN | apply Kd.R_drew)); exact Kd.R_mono (Kd.R_far (p := ⟨gb367, 2, none⟩) (Kd.R_far (p := ⟨gb367, 1, none⟩) (Kd.R_far (p := ⟨gb367, 0, none⟩) (Kd.R_types HO352.out BK367.out (by decide)) (fun _ hk => hk.2) (.int .i64 t360)) (fun _ hk => hk.2) (.slice Ao16 t361.length co16)) (fun _ hk => hk.2) (.slice Ao17 t364.length co17)) (fun _ hk => hk.1.2)⟩
    have n1_ : Aside0 (Kd.R k54 54 (((w13.setCell ⟨gb367, 0, none⟩ (.int .i64 t360)).setCell ⟨gb367, 1, none⟩ (.slice Ao16 t361.length co16)).setCell ⟨gb367, 2, none⟩ (.slice Ao17 t364.length co17)) w.heap.size (fun k_ => some k_ ≠ (.slice Ao17 t364.length co17 : Value).ownBlock) (.slice Ao11 t353.length co11) t353) := ⟨by (with_reducible repeat (first | apply Kd.R_alloc | apply Kd.R_drewN | apply Kd.R_drew)); exact Kd.R_mono (Kd.R_far (p := ⟨gb367, 2, none⟩) (Kd.R_far (p := ⟨gb367, 1, none⟩) (Kd.R_far (p := ⟨gb367, 0, none⟩) (Kd.R_types HO355.out BK367.out (by decide)) (fun _ hk => hk.2) (.int .i64 t360)) (fun _ hk => hk.2) (.slice Ao16 t361.length co16)) (fun _ hk => hk.2) (.slice Ao17 t364.length co17)) (fun _ hk => hk.1.2)⟩
    have n2_ : Aside0 (Kd.R (Kd.int .i64) 3 (((w13.setCell ⟨gb367, 0, none⟩ (.int .i64 t360)).setCell ⟨gb367, 1, none⟩ (.slice Ao16 t361.length co16)).setCell ⟨gb367, 2, none⟩ (.slice Ao17 t364.length co17)) w.heap.size (fun _ => True) v357 t356) := ⟨by (with_reducible repeat (first | apply Kd.R_alloc | apply Kd.R_drewN | apply Kd.R_drew)); exact Kd.R_mono (Kd.R_far (p := ⟨gb367, 2, none⟩) (Kd.R_far (p := ⟨gb367, 1, none⟩) (Kd.R_far (p := ⟨gb367, 0, none⟩) (Kd.R_types HO358.out BK367.out (by decide)) (fun _ hk => hk.2) (.int .i64 t360)) (fun _ hk => hk.2) (.slice Ao16 t361.length co16)) (fun _ hk => hk.2) (.slice Ao17 t364.length co17)) (fun _ hk => trivial)⟩
    have n3_ : Aside0 (Kd.R Kd.bool 4 (((w13.setCell ⟨gb367, 0, none⟩ (.int .i64 t360)).setCell ⟨gb367, 1, none⟩ (.slice Ao16 t361.length co16)).setCell ⟨gb367, 2, none⟩ (.slice Ao17 t364.length co17)) w.heap.size (fun k_ => some k_ ≠ (.slice Ao10 t350.length co10 : Value).ownBlock) (.slice Ao16 t361.length co16) t361) := ⟨by (with_reducible repeat (first | apply Kd.R_alloc | apply Kd.R_drewN | apply Kd.R_drew)); exact Kd.R_mono (Kd.R_far (p := ⟨gb367, 2, none⟩) (Kd.R_far (p := ⟨gb367, 1, none⟩) (Kd.R_far (p := ⟨gb367, 0, none⟩) (Kd.R_types HO363.out BK367.out (by decide)) (fun _ hk => hk.2) (.int .i64 t360)) (fun _ hk => hk.2) (.slice Ao16 t361.length co16)) (fun _ hk => hk.2) (.slice Ao17 t364.length co17)) (fun _ hk => hk.1.2)⟩
    have n4_ : Aside0 (Kd.R k54 54 (((w13.setCell ⟨gb367, 0, none⟩ (.int .i64 t360)).setCell ⟨gb367, 1, none⟩ (.slice Ao16 t361.length co16)).setCell ⟨gb367, 2, none⟩ (.slice Ao17 t364.length co17)) w.heap.size (fun k_ => some k_ ≠ (.slice Ao11 t353.length co11 : Value).ownBlock) (.slice Ao17 t364.length co17) t364) := ⟨by (with_reducible repeat (first | apply Kd.R_alloc | apply Kd.R_drewN | apply Kd.R_drew)); exact Kd.R_mono (Kd.R_far (p := ⟨gb367, 2, none⟩) (Kd.R_far (p := ⟨gb367, 1, none⟩) (Kd.R_far (p := ⟨gb367, 0, none⟩) (Kd.R_types HO366.out BK367.out (by decide)) (fun _ hk => hk.2) (.int .i64 t360)) (fun _ hk => hk.2) (.slice Ao16 t361.length co16)) (fun _ hk => hk.2) (.slice Ao17 t364.length co17)) (fun _ hk => hk.1.2)⟩
    have n5_ : Aside0 ((((w13.setCell ⟨gb367, 0, none⟩ (.int .i64 t360)).setCell ⟨gb367, 1, none⟩ (.slice Ao16 t361.length co16)).setCell ⟨gb367, 2, none⟩ (.slice Ao17 t364.length co17)).heap[gb359]? = some (.cells #[.int .i64 t349, .slice Ao10 t350.length co10, .slice Ao11 t353.length co11] 29 (0, 0))) := ⟨by (with_reducible repeat (first | refine blk_drewN ?_ _ | refine blk_drew ?_ | refine blk_alloc ?_ _)); refine blk_far ?_ NB359_367.out _; (with_reducible repeat (first | refine blk_drewN ?_ _ | refine blk_drew ?_ | refine blk_alloc ?_ _)); refine blk_far ?_ NB359_367.out _; (with_reducible repeat (first | refine blk_drewN ?_ _ | refine blk_drew ?_ | refine blk_alloc ?_ _)); refine blk_far ?_ NB359_367.out _; (with_reducible repeat (first | refine blk_drewN ?_ _ | refine blk_drew ?_ | refine blk_alloc ?_ _)); exact BK359.out⟩
    have n6_ : Aside0 ((((w13.setCell ⟨gb367, 0, none⟩ (.int .i64 t360)).setCell ⟨gb367, 1, none⟩ (.slice Ao16 t361.length co16)).setCell ⟨gb367, 2, none⟩ (.slice Ao17 t364.length co17)).heap[gb367]? = some (.cells #[.int .i64 t360, .slice Ao16 t361.length co16, .slice Ao17 t364.length co17] 29 (0, 0))) := ⟨by (with_reducible repeat (first | refine blk_drewN ?_ _ | refine blk_drew ?_ | refine blk_alloc ?_ _)); refine blk_put (cs := #[.int .i64 t360, .slice Ao16 t361.length co16, .slice none 0 0]) ?_ 2 _ rfl; (with_reducible repeat (first | refine blk_drewN ?_ _ | refine blk_drew ?_ | refine blk_alloc ?_ _)); refine blk_put (cs := #[.int .i64 t360, .slice none 0 0, .slice none 0 0]) ?_ 1 _ rfl; (with_reducible repeat (first | refine blk_drewN ?_ _ | refine blk_drew ?_ | refine blk_alloc ?_ _)); refine blk_put (cs := #[.int .i64 0, .slice none 0 0, .slice none 0 0]) ?_ 0 _ rfl; (with_reducible repeat (first | refine blk_drewN ?_ _ | refine blk_drew ?_ | refine blk_alloc ?_ _)); exact BK367.out⟩
    have n7_ : Aside0 (Below w.heap.size w (((w13.setCell ⟨gb367, 0, none⟩ (.int .i64 t360)).setCell ⟨gb367, 1, none⟩ (.slice Ao16 t361.length co16)).setCell ⟨gb367, 2, none⟩ (.slice Ao17 t364.length co17))) := ⟨zB HB⟩
    (try clear HO352)
    (try clear HO355)
    (try clear HO358)
    (try clear HO363)
    (try clear HO366)
    (try clear BK359)
    (try clear BK367)
    (try clear HB)
    generalize (((w13.setCell ⟨gb367, 0, none⟩ (.int .i64 t360)).setCell ⟨gb367, 1, none⟩ (.slice Ao16 t361.length co16)).setCell ⟨gb367, 2, none⟩ (.slice Ao17 t364.length co17)) = w23 at n0_ n1_ n2_ n3_ n4_ n5_ n6_ n7_ ⊢
    have HO352 := n0_
    have HO355 := n1_
    have HO358 := n2_
    have HO363 := n3_
    have HO366 := n4_
    have BK359 := n5_
    have BK367 := n6_
    have HB := n7_
    clear n0_ n1_ n2_ n3_ n4_ n5_ n6_ n7_
    have n0_ := Aside0.mk (Kd.R_drew HO352.out)
    have n1_ := Aside0.mk (Kd.R_drew HO355.out)
    have n2_ := Aside0.mk (Kd.R_drew HO358.out)
    have n3_ := Aside0.mk (Kd.R_drew HO363.out)
    have n4_ := Aside0.mk (Kd.R_drew HO366.out)
    have n5_ := Aside0.mk (blk_drew BK359.out)
    have n6_ := Aside0.mk (blk_drew BK367.out)
    have n7_ := Aside0.mk (below_drew1 HB.out)
    clear HO352
    clear HO355
    clear HO358
    clear HO363
    clear HO366
    clear BK359
    clear BK367
    clear HB
    have HO352 := n0_
    have HO355 := n1_
    have HO358 := n2_
    have HO363 := n3_
    have HO366 := n4_
    have BK359 := n5_
    have BK367 := n6_
    have HB := n7_
    clear n0_ n1_ n2_ n3_ n4_ n5_ n6_ n7_
    refine start_ (n := 12) (S := fun w' => w'.cell? ⟨gb367, 0, none⟩ = some (.int .i64 t360) ∧ w'.cell? ⟨gb367, 1, none⟩ = some (.slice Ao16 t361.length co16) ∧ w'.cell? ⟨gb367, 2, none⟩ = some (.slice Ao17 t364.length co17) ∧ w'.cell? ⟨gb359, 0, none⟩ = some (.int .i64 t349) ∧ w'.cell? ⟨gb359, 1, none⟩ = some (.slice Ao10 t350.length co10) ∧ w'.cell? ⟨gb359, 2, none⟩ = some (.slice Ao11 t353.length co11)) (ds := []) (bm 12 0) (by kernel_rfl) rfl (bm0 _) ⟨bc0 BK367, bc1 BK367, bc2 BK367, bc0 BK359, bc1 BK359, bc2 BK359⟩ (fun hHeld => ?_); refine with_tabW laws_FnMachines.tab5 laws_FnMachines.bits5 (fun HT_ HW_ => ?_)
    generalize w23.drew = w24 at HO352 HO355 HO358 HO363 HO366 BK359 BK367 HB hHeld ⊢
    refine take_ (i := 0) (N := some 23) (v := ?_) (a' := ?_) (bm 12 1) rfl rfl (take_ofW HT_.out HW_.out (by kernel_rfl)) (fun _ _ _ h => h) (Or.inl ⟨by rfl, ?_⟩) hHeld ?_ ?_
    rotate_left
    ·rintro w' ⟨s0, s1, s2, s3, s4, s5⟩
     go_simp
     with_reducible rfl
    rotate_left
    ·simp only [Act.put, List.setIfInBounds_toArray, List.set_cons_zero, List.set_cons_succ, i64_w, i32_w]
     rfl
    refine take_ (i := 2) (N := some 25) (v := ?_) (a' := ?_) (bm 12 5) rfl rfl (take_ofW HT_.out HW_.out (by kernel_rfl)) (fun _ _ _ h => h) (Or.inl ⟨by rfl, ?_⟩) hHeld ?_ ?_
    rotate_left
    ·rintro w' ⟨s0, s1, s2, s3, s4, s5⟩
     go_simp
     with_reducible rfl
    rotate_left
    ·simp only [Act.put, List.setIfInBounds_toArray, List.set_cons_zero, List.set_cons_succ, i64_w, i32_w]
     rfl
    refine one_ (i := 1) (N := some 24) (bm 12 7) rfl rfl (one_of HT_.out (by kernel_rfl)) (by decide) (fun K hK => ?_)
    refine goes_ Try.func9 (by kernel_rfl) rfl #[.agg #[.int .i64 t360, .slice Ao16 t361.length co16, .slice Ao17 t364.length co17]] (by rfl) rfl rfl zG ?_
    with_reducible refine (impl_DualOf.calls k t360 _ _ t361 _ _ t364 t368 t369 t372 _ ?side1 ?side2 ?side3 ?side4 A18.out).mono ?_
    (case side1 => repeat (first | exact (Kd.R_reads' HO363.out).2.2 | (with_reducible refine Kd.C_alloc ?_ _) | (with_reducible refine Kd.C_drewN ?_ _) | (with_reducible refine Kd.C_drew ?_)))
    (case side2 => exact (Kd.R_reads' HO363.out).2.1)
    (case side3 => repeat (first | exact (Kd.R_reads' HO366.out).2.2 | (with_reducible refine Kd.C_alloc ?_ _) | (with_reducible refine Kd.C_drewN ?_ _) | (with_reducible refine Kd.C_drew ?_)))
    (case side4 => exact (Kd.R_reads' HO366.out).2.1)
    rintro e w25 ⟨v370, v373, rfl, ho0, ho1, hb⟩
    refine ⟨_, rfl, ?_⟩
    have n0_ := Aside0.mk (Kd.R_elder' (zR HO352) (Kd.R_base ho0) hb)
    have n1_ := Aside0.mk (Kd.R_elder' (zR HO355) (Kd.R_base ho1) hb)
    have n2_ := Aside0.mk (Kd.R_below (zR HO358) hb)
    have n3_ := Aside0.mk (Kd.R_elder' (zR HO363) (Kd.R_base ho0) hb)
    have n4_ := Aside0.mk (Kd.R_elder' (zR HO366) (Kd.R_base ho1) hb)
    have n5_ := Aside0.mk (Kd.R_lower (Kd.R_new' (Kd.R_new' ho0 (Kd.R_lt (zR HO352))) (Kd.R_lt (zR HO363))) (below_size (zB HB)))
    have n6_ := Aside0.mk (Kd.R_lower (Kd.R_new' (Kd.R_new' ho1 (Kd.R_lt (zR HO355))) (Kd.R_lt (zR HO366))) (below_size (zB HB)))
    have n7_ := kB BK359 hb
    have n8_ := kB BK367 hb
    have n9_ := bS HB hb
    clear HO352
    clear HO355
    clear HO358
    clear HO363
    clear HO366
    clear BK359
    clear BK367
    clear HB
    have HO352 := n0_
    have HO355 := n1_
    have HO358 := n2_
    have HO363 := n3_
    have HO366 := n4_
    have HO371 := n5_
    have HO374 := n6_
    have BK359 := n7_
    have BK367 := n8_
    have HB := n9_
    clear n0_ n1_ n2_ n3_ n4_ n5_ n6_ n7_ n8_ n9_
    (try clear hb)
    (try clear hb2)
    (try clear hk)
    (try clear hi)
    (try clear ho0)
    (try clear ho1)
    obtain ⟨Ao26, co26, eo26⟩ := Kd.R_slice HO371.out
    (first | subst eo26 | (injection eo26 with f1_ f2_ f3_; have f4_ := f1_.symm; have f5_ := f3_.symm; clear f1_ f2_ f3_; subst f4_; subst f5_))
    obtain ⟨Ao27, co27, eo27⟩ := Kd.R_slice HO374.out
    (first | subst eo27 | (injection eo27 with f1_ f2_ f3_; have f4_ := f1_.symm; have f5_ := f3_.symm; clear f1_ f2_ f3_; subst f4_; subst f5_))
    refine hK.out _ _ ⟨bc0 BK367, bc1 BK367, bc2 BK367, bc0 BK359, bc1 BK359, bc2 BK359⟩ (fun hHeld => ?_)
    clear hK K
    refine norm_ (a' := ?_) ?_ ?_
    rotate_left
    ·show Act.put _ (some 24) _ = _
     simp only [Act.put, List.setIfInBounds_toArray, List.set_cons_zero, List.set_cons_succ, i64_w, i32_w]
     rfl
    refine one_ (i := 3) (N := some 26) (bm 12 15) rfl rfl (one_of HT_.out (by kernel_rfl)) (by decide) (fun K hK => ?_)
    refine goes_ Try.func15 (by kernel_rfl) rfl #[.agg #[.int .i64 t368, .slice Ao26 t369.length co26, .slice Ao27 t372.length co27], .agg #[.int .i64 t349, .slice Ao10 t350.length co10, .slice Ao11 t353.length co11]] (by rfl) rfl rfl zG ?_
    with_reducible refine (impl_EqualMachines.calls k t368 _ _ t369 _ _ t372 t349 _ _ t350 _ _ t353 true _ ?side1 ?side2 ?side3 ?side4 ?side5 ?side6 ?side7 ?side8 A19.out).mono ?_
    (case side1 => repeat (first | exact (Kd.R_reads' HO371.out).2.2 | (with_reducible refine Kd.C_alloc ?_ _) | (with_reducible refine Kd.C_drewN ?_ _) | (with_reducible refine Kd.C_drew ?_)))
    (case side2 => exact (Kd.R_reads' HO371.out).2.1)
    (case side3 => repeat (first | exact (Kd.R_reads' HO374.out).2.2 | (with_reducible refine Kd.C_alloc ?_ _) | (with_reducible refine Kd.C_drewN ?_ _) | (with_reducible refine Kd.C_drew ?_)))
    (case side4 => exact (Kd.R_reads' HO374.out).2.1)
    (case side5 => repeat (first | exact (Kd.R_reads' HO352.out).2.2 | (with_reducible refine Kd.C_alloc ?_ _) | (with_reducible refine Kd.C_drewN ?_ _) | (with_reducible refine Kd.C_drew ?_)))
    (case side6 => exact (Kd.R_reads' HO352.out).2.1)
    (case side7 => repeat (first | exact (Kd.R_reads' HO355.out).2.2 | (with_reducible refine Kd.C_alloc ?_ _) | (with_reducible refine Kd.C_drewN ?_ _) | (with_reducible refine Kd.C_drew ?_)))
    (case side8 => exact (Kd.R_reads' HO355.out).2.1)
    rintro e w28 ⟨rfl, hb⟩
    refine ⟨_, rfl, ?_⟩
    have n0_ := Aside0.mk (Kd.R_below (zR HO352) hb)
    have n1_ := Aside0.mk (Kd.R_below (zR HO355) hb)
    have n2_ := Aside0.mk (Kd.R_below (zR HO358) hb)
    have n3_ := Aside0.mk (Kd.R_below (zR HO363) hb)
    have n4_ := Aside0.mk (Kd.R_below (zR HO366) hb)
    have n5_ := Aside0.mk (Kd.R_below (zR HO371) hb)
    have n6_ := Aside0.mk (Kd.R_below (zR HO374) hb)
    have n7_ := kB BK359 hb
    have n8_ := kB BK367 hb
    have n9_ := bS HB hb
    clear HO352
    clear HO355
    clear HO358
    clear HO363
    clear HO366
    clear HO371
    clear HO374
    clear BK359
    clear BK367
    clear HB
    have HO352 := n0_
    have HO355 := n1_
    have HO358 := n2_
    have HO363 := n3_
    have HO366 := n4_
    have HO371 := n5_
    have HO374 := n6_
    have BK359 := n7_
    have BK367 := n8_
    have HB := n9_
    clear n0_ n1_ n2_ n3_ n4_ n5_ n6_ n7_ n8_ n9_
    (try clear hb)
    (try clear hb2)
    (try clear hk)
    (try clear hi)
    refine hK.out _ _ ⟨bc0 BK367, bc1 BK367, bc2 BK367, bc0 BK359, bc1 BK359, bc2 BK359⟩ (fun hHeld => ?_)
    clear hK K
    refine norm_ (a' := ?_) ?_ ?_
    rotate_left
    ·show Act.put _ (some 26) _ = _
     simp only [Act.put, List.setIfInBounds_toArray, List.set_cons_zero, List.set_cons_succ, i64_w, i32_w]
     rfl
    refine pure_ (i := 4) (N := some 27) (v := ?_) (a' := ?_) (bm 12 31) rfl rfl (any_of HT_.out (by kernel_rfl)) (fun _ _ _ h => h) (Or.inl ⟨by rfl, ?_⟩) ?_ ?_
    rotate_left
    ·intro w'
     go_simp
     with_reducible rfl
    rotate_left
    ·simp only [Act.put, List.setIfInBounds_toArray, List.set_cons_zero, List.set_cons_succ, i64_w, i32_w]
     rfl
    refine pure_ (i := 5) (N := some 28) (v := ?_) (a' := ?_) (bm 12 63) rfl rfl (any_of HT_.out (by kernel_rfl)) (fun _ _ _ h => h) (Or.inl ⟨by rfl, ?_⟩) ?_ ?_
    rotate_left
    ·intro w'
     go_simp
     with_reducible rfl
    rotate_left
    ·simp only [Act.put, List.setIfInBounds_toArray, List.set_cons_zero, List.set_cons_succ, i64_w, i32_w]
     rfl
    refine take_ (i := 6) (N := some 29) (v := ?_) (a' := ?_) (bm 12 127) rfl rfl (take_ofW HT_.out HW_.out (by kernel_rfl)) (fun _ _ _ h => h) (Or.inl ⟨by rfl, ?_⟩) hHeld ?_ ?_
    rotate_left
    ·rintro w' ⟨s0, s1, s2, s3, s4, s5⟩
     go_simp
     with_reducible rfl
    rotate_left
    ·simp only [Act.put, List.setIfInBounds_toArray, List.set_cons_zero, List.set_cons_succ, i64_w, i32_w]
     rfl
    refine take_ (i := 8) (N := some 31) (v := ?_) (a' := ?_) (bm 12 383) rfl rfl (take_ofW HT_.out HW_.out (by kernel_rfl)) (fun _ _ _ h => h) (Or.inl ⟨by rfl, ?_⟩) hHeld ?_ ?_
    rotate_left
    ·rintro w' ⟨s0, s1, s2, s3, s4, s5⟩
     go_simp
     with_reducible rfl
    rotate_left
    ·simp only [Act.put, List.setIfInBounds_toArray, List.set_cons_zero, List.set_cons_succ, i64_w, i32_w]
     rfl
    refine one_ (i := 7) (N := some 30) (bm 12 511) rfl rfl (one_of HT_.out (by kernel_rfl)) (by decide) (fun K hK => ?_)
    refine goes_ Try.func16 (by kernel_rfl) rfl #[.agg #[.int .i64 t360, .slice Ao16 t361.length co16, .slice Ao17 t364.length co17]] (by rfl) rfl rfl zG ?_
    with_reducible refine (impl_IsMachine.calls k t360 _ _ t361 _ _ t364 t376 _ ?side1 ?side2 ?side3 ?side4 A21.out).mono ?_
    (case side1 => repeat (first | exact (Kd.R_reads' HO363.out).2.2 | (with_reducible refine Kd.C_alloc ?_ _) | (with_reducible refine Kd.C_drewN ?_ _) | (with_reducible refine Kd.C_drew ?_)))
    (case side2 => exact (Kd.R_reads' HO363.out).2.1)
    (case side3 => repeat (first | exact (Kd.R_reads' HO366.out).2.2 | (with_reducible refine Kd.C_alloc ?_ _) | (with_reducible refine Kd.C_drewN ?_ _) | (with_reducible refine Kd.C_drew ?_)))
    (case side4 => exact (Kd.R_reads' HO366.out).2.1)
    rintro e w29 ⟨rfl, hb⟩
    refine ⟨_, rfl, ?_⟩
    have n0_ := Aside0.mk (Kd.R_below (zR HO352) hb)
    have n1_ := Aside0.mk (Kd.R_below (zR HO355) hb)
    have n2_ := Aside0.mk (Kd.R_below (zR HO358) hb)
    have n3_ := Aside0.mk (Kd.R_below (zR HO363) hb)
    have n4_ := Aside0.mk (Kd.R_below (zR HO366) hb)
    have n5_ := Aside0.mk (Kd.R_below (zR HO371) hb)
    have n6_ := Aside0.mk (Kd.R_below (zR HO374) hb)
    have n7_ := kB BK359 hb
    have n8_ := kB BK367 hb
    have n9_ := bS HB hb
    clear HO352
    clear HO355
    clear HO358
    clear HO363
    clear HO366
    clear HO371
    clear HO374
    clear BK359
    clear BK367
    clear HB
    have HO352 := n0_
    have HO355 := n1_
    have HO358 := n2_
    have HO363 := n3_
    have HO366 := n4_
    have HO371 := n5_
    have HO374 := n6_
    have BK359 := n7_
    have BK367 := n8_
    have HB := n9_
    clear n0_ n1_ n2_ n3_ n4_ n5_ n6_ n7_ n8_ n9_
    (try clear hb)
    (try clear hb2)
    (try clear hk)
    (try clear hi)
    refine hK.out _ _ ⟨bc0 BK367, bc1 BK367, bc2 BK367, bc0 BK359, bc1 BK359, bc2 BK359⟩ (fun hHeld => ?_)
    clear hK K
    refine norm_ (a' := ?_) ?_ ?_
    rotate_left
    ·show Act.put _ (some 30) _ = _
     simp only [Act.put, List.setIfInBounds_toArray, List.set_cons_zero, List.set_cons_succ, i64_w, i32_w]
     rfl
    refine one_ (i := 9) (N := some 32) (bm 12 1023) rfl rfl (one_of HT_.out (by kernel_rfl)) (by decide) (fun K hK => ?_)
    refine goes_ Try.func16 (by kernel_rfl) rfl #[.agg #[.int .i64 t349, .slice Ao10 t350.length co10, .slice Ao11 t353.length co11]] (by rfl) rfl rfl zG ?_
    with_reducible refine (impl_IsMachine.calls k t349 _ _ t350 _ _ t353 t377 _ ?side1 ?side2 ?side3 ?side4 A22.out).mono ?_
    (case side1 => repeat (first | exact (Kd.R_reads' HO352.out).2.2 | (with_reducible refine Kd.C_alloc ?_ _) | (with_reducible refine Kd.C_drewN ?_ _) | (with_reducible refine Kd.C_drew ?_)))
    (case side2 => exact (Kd.R_reads' HO352.out).2.1)
    (case side3 => repeat (first | exact (Kd.R_reads' HO355.out).2.2 | (with_reducible refine Kd.C_alloc ?_ _) | (with_reducible refine Kd.C_drewN ?_ _) | (with_reducible refine Kd.C_drew ?_)))
    (case side4 => exact (Kd.R_reads' HO355.out).2.1)
    rintro e w30 ⟨rfl, hb⟩
    refine ⟨_, rfl, ?_⟩
    have n0_ := Aside0.mk (Kd.R_below (zR HO352) hb)
    have n1_ := Aside0.mk (Kd.R_below (zR HO355) hb)
    have n2_ := Aside0.mk (Kd.R_below (zR HO358) hb)
    have n3_ := Aside0.mk (Kd.R_below (zR HO363) hb)
    have n4_ := Aside0.mk (Kd.R_below (zR HO366) hb)
    have n5_ := Aside0.mk (Kd.R_below (zR HO371) hb)
    have n6_ := Aside0.mk (Kd.R_below (zR HO374) hb)
    have n7_ := kB BK359 hb
    have n8_ := kB BK367 hb
    have n9_ := bS HB hb
    clear HO352
    clear HO355
    clear HO358
    clear HO363
    clear HO366
    clear HO371
    clear HO374
    clear BK359
    clear BK367
    clear HB
    have HO352 := n0_
    have HO355 := n1_
    have HO358 := n2_
    have HO363 := n3_
    have HO366 := n4_
    have HO371 := n5_
    have HO374 := n6_
    have BK359 := n7_
    have BK367 := n8_
    have HB := n9_
    clear n0_ n1_ n2_ n3_ n4_ n5_ n6_ n7_ n8_ n9_
    (try clear hb)
    (try clear hb2)
    (try clear hk)
    (try clear hi)
    refine hK.out _ _ ⟨bc0 BK367, bc1 BK367, bc2 BK367, bc0 BK359, bc1 BK359, bc2 BK359⟩ (fun hHeld => ?_)
    clear hK K
    refine norm_ (a' := ?_) ?_ ?_
    rotate_left
    ·show Act.put _ (some 32) _ = _
     simp only [Act.put, List.setIfInBounds_toArray, List.set_cons_zero, List.set_cons_succ, i64_w, i32_w]
     rfl
    refine pure_ (i := 10) (N := some 33) (v := ?_) (a' := ?_) (bm 12 2047) rfl rfl (any_of HT_.out (by kernel_rfl)) (fun _ _ _ h => h) (Or.inl ⟨by rfl, ?_⟩) ?_ ?_
    rotate_left
    ·intro w'
     go_simp
     with_reducible rfl
    rotate_left
    ·simp only [Act.put, List.setIfInBounds_toArray, List.set_cons_zero, List.set_cons_succ, i64_w, i32_w]
     rfl
    refine pure_ (i := 11) (N := some 34) (v := ?_) (a' := ?_) (bm 12 4095) rfl rfl (any_of HT_.out (by kernel_rfl)) (fun _ _ _ h => h) (Or.inl ⟨by rfl, ?_⟩) ?_ ?_
    rotate_left
    ·intro w'
     go_simp
     with_reducible rfl
    rotate_left
    ·simp only [Act.put, List.setIfInBounds_toArray, List.set_cons_zero, List.set_cons_succ, i64_w, i32_w]
     rfl
    refine done_ (done_of HT_.out (by kernel_rfl)) ?_
    try clear hHeld
    try go_wp2
    go_meet
    case rel => exact ⟨_, ((t376 != t377)), zF, H', ⟨by first | omega | exact Nat.le_refl _⟩, ⟨zR HO358⟩, ⟨by (with_reducible repeat (first | apply Kd.R_alloc | apply Kd.R_drewN | apply Kd.R_drew)); exact Kd.R_mono HO352.out (fun _ hk => hk.1)⟩, ⟨by (with_reducible repeat (first | apply Kd.R_alloc | apply Kd.R_drewN | apply Kd.R_drew)); exact Kd.R_mono HO355.out (fun _ hk => hk.1)⟩, ⟨by (with_reducible repeat (first | apply Kd.R_alloc | apply Kd.R_drewN | apply Kd.R_drew)); exact Kd.R_mono HO363.out (fun _ hk => hk.1)⟩, ⟨by (with_reducible repeat (first | apply Kd.R_alloc | apply Kd.R_drewN | apply Kd.R_drew)); exact Kd.R_mono HO366.out (fun _ hk => hk.1)⟩, ⟨zK BK359⟩, ⟨zK BK367⟩, ⟨zB HB⟩⟩
   ·replace c20 := Bool.eq_false_iff.mpr c20
    subst c20
    have H1 : (laws_FnMachines.j0 k l0 t356 true t349 t350 t353 t360 t361 t364) = some r := by rw [if_neg (show ¬ (false = true) by decide)] at H; exact H
    clear H
    have H := H1
    clear H1
    have H' := Aside0.mk H
    clear H
    try go_wp2
    have n0_ : Aside0 (Kd.R Kd.bool 4 (((w13.setCell ⟨gb367, 0, none⟩ (.int .i64 t360)).setCell ⟨gb367, 1, none⟩ (.slice Ao16 t361.length co16)).setCell ⟨gb367, 2, none⟩ (.slice Ao17 t364.length co17)) w.heap.size (fun k_ => some k_ ≠ (.slice Ao16 t361.length co16 : Value).ownBlock) (.slice Ao10 t350.length co10) t350) := ⟨by (with_reducible repeat (first | apply Kd.R_alloc | apply Kd.R_drewN | apply Kd.R_drew)); exact Kd.R_mono (Kd.R_far (p := ⟨gb367, 2, none⟩) (Kd.R_far (p := ⟨gb367, 1, none⟩) (Kd.R_far (p := ⟨gb367, 0, none⟩) (Kd.R_types HO352.out BK367.out (by decide)) (fun _ hk => hk.2) (.int .i64 t360)) (fun _ hk => hk.2) (.slice Ao16 t361.length co16)) (fun _ hk => hk.2) (.slice Ao17 t364.length co17)) (fun _ hk => hk.1.2)⟩
    have n1_ : Aside0 (Kd.R k54 54 (((w13.setCell ⟨gb367, 0, none⟩ (.int .i64 t360)).setCell ⟨gb367, 1, none⟩ (.slice Ao16 t361.length co16)).setCell ⟨gb367, 2, none⟩ (.slice Ao17 t364.length co17)) w.heap.size (fun k_ => some k_ ≠ (.slice Ao17 t364.length co17 : Value).ownBlock) (.slice Ao11 t353.length co11) t353) := ⟨by (with_reducible repeat (first | apply Kd.R_alloc | apply Kd.R_drewN | apply Kd.R_drew)); exact Kd.R_mono (Kd.R_far (p := ⟨gb367, 2, none⟩) (Kd.R_far (p := ⟨gb367, 1, none⟩) (Kd.R_far (p := ⟨gb367, 0, none⟩) (Kd.R_types HO355.out BK367.out (by decide)) (fun _ hk => hk.2) (.int .i64 t360)) (fun _ hk => hk.2) (.slice Ao16 t361.length co16)) (fun _ hk => hk.2) (.slice Ao17 t364.length co17)) (fun _ hk => hk.1.2)⟩
    have n2_ : Aside0 (Kd.R (Kd.int .i64) 3 (((w13.setCell ⟨gb367, 0, none⟩ (.int .i64 t360)).setCell ⟨gb367, 1, none⟩ (.slice Ao16 t361.length co16)).setCell ⟨gb367, 2, none⟩ (.slice Ao17 t364.length co17)) w.heap.size (fun _ => True) v357 t356) := ⟨by (with_reducible repeat (first | apply Kd.R_alloc | apply Kd.R_drewN | apply Kd.R_drew)); exact Kd.R_mono (Kd.R_far (p := ⟨gb367, 2, none⟩) (Kd.R_far (p := ⟨gb367, 1, none⟩) (Kd.R_far (p := ⟨gb367, 0, none⟩) (Kd.R_types HO358.out BK367.out (by decide)) (fun _ hk => hk.2) (.int .i64 t360)) (fun _ hk => hk.2) (.slice Ao16 t361.length co16)) (fun _ hk => hk.2) (.slice Ao17 t364.length co17)) (fun _ hk => trivial)⟩
    have n3_ : Aside0 (Kd.R Kd.bool 4 (((w13.setCell ⟨gb367, 0, none⟩ (.int .i64 t360)).setCell ⟨gb367, 1, none⟩ (.slice Ao16 t361.length co16)).setCell ⟨gb367, 2, none⟩ (.slice Ao17 t364.length co17)) w.heap.size (fun k_ => some k_ ≠ (.slice Ao10 t350.length co10 : Value).ownBlock) (.slice Ao16 t361.length co16) t361) := ⟨by (with_reducible repeat (first | apply Kd.R_alloc | apply Kd.R_drewN | apply Kd.R_drew)); exact Kd.R_mono (Kd.R_far (p := ⟨gb367, 2, none⟩) (Kd.R_far (p := ⟨gb367, 1, none⟩) (Kd.R_far (p := ⟨gb367, 0, none⟩) (Kd.R_types HO363.out BK367.out (by decide)) (fun _ hk => hk.2) (.int .i64 t360)) (fun _ hk => hk.2) (.slice Ao16 t361.length co16)) (fun _ hk => hk.2) (.slice Ao17 t364.length co17)) (fun _ hk => hk.1.2)⟩
    have n4_ : Aside0 (Kd.R k54 54 (((w13.setCell ⟨gb367, 0, none⟩ (.int .i64 t360)).setCell ⟨gb367, 1, none⟩ (.slice Ao16 t361.length co16)).setCell ⟨gb367, 2, none⟩ (.slice Ao17 t364.length co17)) w.heap.size (fun k_ => some k_ ≠ (.slice Ao11 t353.length co11 : Value).ownBlock) (.slice Ao17 t364.length co17) t364) := ⟨by (with_reducible repeat (first | apply Kd.R_alloc | apply Kd.R_drewN | apply Kd.R_drew)); exact Kd.R_mono (Kd.R_far (p := ⟨gb367, 2, none⟩) (Kd.R_far (p := ⟨gb367, 1, none⟩) (Kd.R_far (p := ⟨gb367, 0, none⟩) (Kd.R_types HO366.out BK367.out (by decide)) (fun _ hk => hk.2) (.int .i64 t360)) (fun _ hk => hk.2) (.slice Ao16 t361.length co16)) (fun _ hk => hk.2) (.slice Ao17 t364.length co17)) (fun _ hk => hk.1.2)⟩
    have n5_ : Aside0 ((((w13.setCell ⟨gb367, 0, none⟩ (.int .i64 t360)).setCell ⟨gb367, 1, none⟩ (.slice Ao16 t361.length co16)).setCell ⟨gb367, 2, none⟩ (.slice Ao17 t364.length co17)).heap[gb359]? = some (.cells #[.int .i64 t349, .slice Ao10 t350.length co10, .slice Ao11 t353.length co11] 29 (0, 0))) := ⟨by (with_reducible repeat (first | refine blk_drewN ?_ _ | refine blk_drew ?_ | refine blk_alloc ?_ _)); refine blk_far ?_ NB359_367.out _; (with_reducible repeat (first | refine blk_drewN ?_ _ | refine blk_drew ?_ | refine blk_alloc ?_ _)); refine blk_far ?_ NB359_367.out _; (with_reducible repeat (first | refine blk_drewN ?_ _ | refine blk_drew ?_ | refine blk_alloc ?_ _)); refine blk_far ?_ NB359_367.out _; (with_reducible repeat (first | refine blk_drewN ?_ _ | refine blk_drew ?_ | refine blk_alloc ?_ _)); exact BK359.out⟩
    have n6_ : Aside0 ((((w13.setCell ⟨gb367, 0, none⟩ (.int .i64 t360)).setCell ⟨gb367, 1, none⟩ (.slice Ao16 t361.length co16)).setCell ⟨gb367, 2, none⟩ (.slice Ao17 t364.length co17)).heap[gb367]? = some (.cells #[.int .i64 t360, .slice Ao16 t361.length co16, .slice Ao17 t364.length co17] 29 (0, 0))) := ⟨by (with_reducible repeat (first | refine blk_drewN ?_ _ | refine blk_drew ?_ | refine blk_alloc ?_ _)); refine blk_put (cs := #[.int .i64 t360, .slice Ao16 t361.length co16, .slice none 0 0]) ?_ 2 _ rfl; (with_reducible repeat (first | refine blk_drewN ?_ _ | refine blk_drew ?_ | refine blk_alloc ?_ _)); refine blk_put (cs := #[.int .i64 t360, .slice none 0 0, .slice none 0 0]) ?_ 1 _ rfl; (with_reducible repeat (first | refine blk_drewN ?_ _ | refine blk_drew ?_ | refine blk_alloc ?_ _)); refine blk_put (cs := #[.int .i64 0, .slice none 0 0, .slice none 0 0]) ?_ 0 _ rfl; (with_reducible repeat (first | refine blk_drewN ?_ _ | refine blk_drew ?_ | refine blk_alloc ?_ _)); exact BK367.out⟩
    have n7_ : Aside0 (Below w.heap.size w (((w13.setCell ⟨gb367, 0, none⟩ (.int .i64 t360)).setCell ⟨gb367, 1, none⟩ (.slice Ao16 t361.length co16)).setCell ⟨gb367, 2, none⟩ (.slice Ao17 t364.length co17))) := ⟨zB HB⟩
    (try clear HO352)
    (try clear HO355)
    (try clear HO358)
    (try clear HO363)
    (try clear HO366)
    (try clear BK359)
    (try clear BK367)
    (try clear HB)
    generalize (((w13.setCell ⟨gb367, 0, none⟩ (.int .i64 t360)).setCell ⟨gb367, 1, none⟩ (.slice Ao16 t361.length co16)).setCell ⟨gb367, 2, none⟩ (.slice Ao17 t364.length co17)) = w31 at n0_ n1_ n2_ n3_ n4_ n5_ n6_ n7_ ⊢
    have HO352 := n0_
    have HO355 := n1_
    have HO358 := n2_
    have HO363 := n3_
    have HO366 := n4_
    have BK359 := n5_
    have BK367 := n6_
    have HB := n7_
    clear n0_ n1_ n2_ n3_ n4_ n5_ n6_ n7_
    have n0_ := Aside0.mk (Kd.R_drew HO352.out)
    have n1_ := Aside0.mk (Kd.R_drew HO355.out)
    have n2_ := Aside0.mk (Kd.R_drew HO358.out)
    have n3_ := Aside0.mk (Kd.R_drew HO363.out)
    have n4_ := Aside0.mk (Kd.R_drew HO366.out)
    have n5_ := Aside0.mk (blk_drew BK359.out)
    have n6_ := Aside0.mk (blk_drew BK367.out)
    have n7_ := Aside0.mk (below_drew1 HB.out)
    clear HO352
    clear HO355
    clear HO358
    clear HO363
    clear HO366
    clear BK359
    clear BK367
    clear HB
    have HO352 := n0_
    have HO355 := n1_
    have HO358 := n2_
    have HO363 := n3_
    have HO366 := n4_
    have BK359 := n5_
    have BK367 := n6_
    have HB := n7_
    clear n0_ n1_ n2_ n3_ n4_ n5_ n6_ n7_
    refine start_ (n := 12) (S := fun w' => w'.cell? ⟨gb367, 0, none⟩ = some (.int .i64 t360) ∧ w'.cell? ⟨gb367, 1, none⟩ = some (.slice Ao16 t361.length co16) ∧ w'.cell? ⟨gb367, 2, none⟩ = some (.slice Ao17 t364.length co17) ∧ w'.cell? ⟨gb359, 0, none⟩ = some (.int .i64 t349) ∧ w'.cell? ⟨gb359, 1, none⟩ = some (.slice Ao10 t350.length co10) ∧ w'.cell? ⟨gb359, 2, none⟩ = some (.slice Ao11 t353.length co11)) (ds := []) (bm 12 0) (by kernel_rfl) rfl (bm0 _) ⟨bc0 BK367, bc1 BK367, bc2 BK367, bc0 BK359, bc1 BK359, bc2 BK359⟩ (fun hHeld => ?_); refine with_tabW laws_FnMachines.tab5 laws_FnMachines.bits5 (fun HT_ HW_ => ?_)
    generalize w31.drew = w32 at HO352 HO355 HO358 HO363 HO366 BK359 BK367 HB hHeld ⊢
    refine take_ (i := 0) (N := some 23) (v := ?_) (a' := ?_) (bm 12 1) rfl rfl (take_ofW HT_.out HW_.out (by kernel_rfl)) (fun _ _ _ h => h) (Or.inl ⟨by rfl, ?_⟩) hHeld ?_ ?_
    rotate_left
    ·rintro w' ⟨s0, s1, s2, s3, s4, s5⟩
     go_simp
     with_reducible rfl
    rotate_left
    ·simp only [Act.put, List.setIfInBounds_toArray, List.set_cons_zero, List.set_cons_succ, i64_w, i32_w]
     rfl
    refine take_ (i := 2) (N := some 25) (v := ?_) (a' := ?_) (bm 12 5) rfl rfl (take_ofW HT_.out HW_.out (by kernel_rfl)) (fun _ _ _ h => h) (Or.inl ⟨by rfl, ?_⟩) hHeld ?_ ?_
    rotate_left
    ·rintro w' ⟨s0, s1, s2, s3, s4, s5⟩
     go_simp
     with_reducible rfl
    rotate_left
    ·simp only [Act.put, List.setIfInBounds_toArray, List.set_cons_zero, List.set_cons_succ, i64_w, i32_w]
     rfl
    refine one_ (i := 1) (N := some 24) (bm 12 7) rfl rfl (one_of HT_.out (by kernel_rfl)) (by decide) (fun K hK => ?_)
    refine goes_ Try.func9 (by kernel_rfl) rfl #[.agg #[.int .i64 t360, .slice Ao16 t361.length co16, .slice Ao17 t364.length co17]] (by rfl) rfl rfl zG ?_
    with_reducible refine (impl_DualOf.calls k t360 _ _ t361 _ _ t364 t368 t369 t372 _ ?side1 ?side2 ?side3 ?side4 A18.out).mono ?_
    (case side1 => repeat (first | exact (Kd.R_reads' HO363.out).2.2 | (with_reducible refine Kd.C_alloc ?_ _) | (with_reducible refine Kd.C_drewN ?_ _) | (with_reducible refine Kd.C_drew ?_)))
    (case side2 => exact (Kd.R_reads' HO363.out).2.1)
    (case side3 => repeat (first | exact (Kd.R_reads' HO366.out).2.2 | (with_reducible refine Kd.C_alloc ?_ _) | (with_reducible refine Kd.C_drewN ?_ _) | (with_reducible refine Kd.C_drew ?_)))
    (case side4 => exact (Kd.R_reads' HO366.out).2.1)
    rintro e w33 ⟨v370, v373, rfl, ho0, ho1, hb⟩
    refine ⟨_, rfl, ?_⟩
    have n0_ := Aside0.mk (Kd.R_elder' (zR HO352) (Kd.R_base ho0) hb)
    have n1_ := Aside0.mk (Kd.R_elder' (zR HO355) (Kd.R_base ho1) hb)
    have n2_ := Aside0.mk (Kd.R_below (zR HO358) hb)
    have n3_ := Aside0.mk (Kd.R_elder' (zR HO363) (Kd.R_base ho0) hb)
    have n4_ := Aside0.mk (Kd.R_elder' (zR HO366) (Kd.R_base ho1) hb)
    have n5_ := Aside0.mk (Kd.R_lower (Kd.R_new' (Kd.R_new' ho0 (Kd.R_lt (zR HO352))) (Kd.R_lt (zR HO363))) (below_size (zB HB)))
    have n6_ := Aside0.mk (Kd.R_lower (Kd.R_new' (Kd.R_new' ho1 (Kd.R_lt (zR HO355))) (Kd.R_lt (zR HO366))) (below_size (zB HB)))
    have n7_ := kB BK359 hb
    have n8_ := kB BK367 hb
    have n9_ := bS HB hb
    clear HO352
    clear HO355
    clear HO358
    clear HO363
    clear HO366
    clear BK359
    clear BK367
    clear HB
    have HO352 := n0_
    have HO355 := n1_
    have HO358 := n2_
    have HO363 := n3_
    have HO366 := n4_
    have HO371 := n5_
    have HO374 := n6_
    have BK359 := n7_
    have BK367 := n8_
    have HB := n9_
    clear n0_ n1_ n2_ n3_ n4_ n5_ n6_ n7_ n8_ n9_
    (try clear hb)
    (try clear hb2)
    (try clear hk)
    (try clear hi)
    (try clear ho0)
    (try clear ho1)
    obtain ⟨Ao34, co34, eo34⟩ := Kd.R_slice HO371.out
    (first | subst eo34 | (injection eo34 with f1_ f2_ f3_; have f4_ := f1_.symm; have f5_ := f3_.symm; clear f1_ f2_ f3_; subst f4_; subst f5_))
    obtain ⟨Ao35, co35, eo35⟩ := Kd.R_slice HO374.out
    (first | subst eo35 | (injection eo35 with f1_ f2_ f3_; have f4_ := f1_.symm; have f5_ := f3_.symm; clear f1_ f2_ f3_; subst f4_; subst f5_))
    refine hK.out _ _ ⟨bc0 BK367, bc1 BK367, bc2 BK367, bc0 BK359, bc1 BK359, bc2 BK359⟩ (fun hHeld => ?_)
    clear hK K
    refine norm_ (a' := ?_) ?_ ?_
    rotate_left
    ·show Act.put _ (some 24) _ = _
     simp only [Act.put, List.setIfInBounds_toArray, List.set_cons_zero, List.set_cons_succ, i64_w, i32_w]
     rfl
    refine one_ (i := 3) (N := some 26) (bm 12 15) rfl rfl (one_of HT_.out (by kernel_rfl)) (by decide) (fun K hK => ?_)
    refine goes_ Try.func15 (by kernel_rfl) rfl #[.agg #[.int .i64 t368, .slice Ao34 t369.length co34, .slice Ao35 t372.length co35], .agg #[.int .i64 t349, .slice Ao10 t350.length co10, .slice Ao11 t353.length co11]] (by rfl) rfl rfl zG ?_
    with_reducible refine (impl_EqualMachines.calls k t368 _ _ t369 _ _ t372 t349 _ _ t350 _ _ t353 false _ ?side1 ?side2 ?side3 ?side4 ?side5 ?side6 ?side7 ?side8 A19.out).mono ?_
    (case side1 => repeat (first | exact (Kd.R_reads' HO371.out).2.2 | (with_reducible refine Kd.C_alloc ?_ _) | (with_reducible refine Kd.C_drewN ?_ _) | (with_reducible refine Kd.C_drew ?_)))
    (case side2 => exact (Kd.R_reads' HO371.out).2.1)
    (case side3 => repeat (first | exact (Kd.R_reads' HO374.out).2.2 | (with_reducible refine Kd.C_alloc ?_ _) | (with_reducible refine Kd.C_drewN ?_ _) | (with_reducible refine Kd.C_drew ?_)))
    (case side4 => exact (Kd.R_reads' HO374.out).2.1)
    (case side5 => repeat (first | exact (Kd.R_reads' HO352.out).2.2 | (with_reducible refine Kd.C_alloc ?_ _) | (with_reducible refine Kd.C_drewN ?_ _) | (with_reducible refine Kd.C_drew ?_)))
    (case side6 => exact (Kd.R_reads' HO352.out).2.1)
    (case side7 => repeat (first | exact (Kd.R_reads' HO355.out).2.2 | (with_reducible refine Kd.C_alloc ?_ _) | (with_reducible refine Kd.C_drewN ?_ _) | (with_reducible refine Kd.C_drew ?_)))
    (case side8 => exact (Kd.R_reads' HO355.out).2.1)
    rintro e w36 ⟨rfl, hb⟩
    refine ⟨_, rfl, ?_⟩
    have n0_ := Aside0.mk (Kd.R_below (zR HO352) hb)
    have n1_ := Aside0.mk (Kd.R_below (zR HO355) hb)
    have n2_ := Aside0.mk (Kd.R_below (zR HO358) hb)
    have n3_ := Aside0.mk (Kd.R_below (zR HO363) hb)
    have n4_ := Aside0.mk (Kd.R_below (zR HO366) hb)
    have n5_ := Aside0.mk (Kd.R_below (zR HO371) hb)
    have n6_ := Aside0.mk (Kd.R_below (zR HO374) hb)
    have n7_ := kB BK359 hb
    have n8_ := kB BK367 hb
    have n9_ := bS HB hb
    clear HO352
    clear HO355
    clear HO358
    clear HO363
    clear HO366
    clear HO371
    clear HO374
    clear BK359
    clear BK367
    clear HB
    have HO352 := n0_
    have HO355 := n1_
    have HO358 := n2_
    have HO363 := n3_
    have HO366 := n4_
    have HO371 := n5_
    have HO374 := n6_
    have BK359 := n7_
    have BK367 := n8_
    have HB := n9_
    clear n0_ n1_ n2_ n3_ n4_ n5_ n6_ n7_ n8_ n9_
    (try clear hb)
    (try clear hb2)
    (try clear hk)
    (try clear hi)
    refine hK.out _ _ ⟨bc0 BK367, bc1 BK367, bc2 BK367, bc0 BK359, bc1 BK359, bc2 BK359⟩ (fun hHeld => ?_)
    clear hK K
    refine norm_ (a' := ?_) ?_ ?_
    rotate_left
    ·show Act.put _ (some 26) _ = _
     simp only [Act.put, List.setIfInBounds_toArray, List.set_cons_zero, List.set_cons_succ, i64_w, i32_w]
     rfl
    refine pure_ (i := 4) (N := some 27) (v := ?_) (a' := ?_) (bm 12 31) rfl rfl (any_of HT_.out (by kernel_rfl)) (fun _ _ _ h => h) (Or.inl ⟨by rfl, ?_⟩) ?_ ?_
    rotate_left
    ·intro w'
     go_simp
     with_reducible rfl
    rotate_left
    ·simp only [Act.put, List.setIfInBounds_toArray, List.set_cons_zero, List.set_cons_succ, i64_w, i32_w]
     rfl
    refine pure_ (i := 5) (N := some 28) (v := ?_) (a' := ?_) (bm 12 63) rfl rfl (any_of HT_.out (by kernel_rfl)) (fun _ _ _ h => h) (Or.inl ⟨by rfl, ?_⟩) ?_ ?_
    rotate_left
    ·intro w'
     go_simp
     with_reducible rfl
    rotate_left
    ·simp only [Act.put, List.setIfInBounds_toArray, List.set_cons_zero, List.set_cons_succ, i64_w, i32_w]
     rfl
    refine pure_ (i := 6) (N := some 29) (v := undef) (a' := ?_) (bm 12 127) rfl rfl (any_of HT_.out (by kernel_rfl)) (fun _ _ _ h => h) (Or.inr ⟨by rfl, rfl⟩) ?_ ?_
    rotate_left
    ·simp only [Act.put, List.setIfInBounds_toArray, List.set_cons_zero, List.set_cons_succ, i64_w, i32_w]
     rfl
    refine pure_ (i := 7) (N := some 30) (v := undef) (a' := ?_) (bm 12 255) rfl rfl (any_of HT_.out (by kernel_rfl)) (fun _ _ _ h => h) (Or.inr ⟨by rfl, rfl⟩) ?_ ?_
    rotate_left
    ·simp only [Act.put, List.setIfInBounds_toArray, List.set_cons_zero, List.set_cons_succ, i64_w, i32_w]
     rfl
    refine pure_ (i := 8) (N := some 31) (v := undef) (a' := ?_) (bm 12 511) rfl rfl (any_of HT_.out (by kernel_rfl)) (fun _ _ _ h => h) (Or.inr ⟨by rfl, rfl⟩) ?_ ?_
    rotate_left
    ·simp only [Act.put, List.setIfInBounds_toArray, List.set_cons_zero, List.set_cons_succ, i64_w, i32_w]
     rfl
    refine pure_ (i := 9) (N := some 32) (v := undef) (a' := ?_) (bm 12 1023) rfl rfl (any_of HT_.out (by kernel_rfl)) (fun _ _ _ h => h) (Or.inr ⟨by rfl, rfl⟩) ?_ ?_
    rotate_left
    ·simp only [Act.put, List.setIfInBounds_toArray, List.set_cons_zero, List.set_cons_succ, i64_w, i32_w]
     rfl
    refine pure_ (i := 10) (N := some 33) (v := undef) (a' := ?_) (bm 12 2047) rfl rfl (any_of HT_.out (by kernel_rfl)) (fun _ _ _ h => h) (Or.inr ⟨by rfl, rfl⟩) ?_ ?_
    rotate_left
    ·simp only [Act.put, List.setIfInBounds_toArray, List.set_cons_zero, List.set_cons_succ, i64_w, i32_w]
     rfl
    refine pure_ (i := 11) (N := some 34) (v := ?_) (a' := ?_) (bm 12 4095) rfl rfl (any_of HT_.out (by kernel_rfl)) (fun _ _ _ h => h) (Or.inl ⟨by rfl, ?_⟩) ?_ ?_
    rotate_left
    ·intro w'
     go_simp
     with_reducible rfl
    rotate_left
    ·simp only [Act.put, List.setIfInBounds_toArray, List.set_cons_zero, List.set_cons_succ, i64_w, i32_w]
     rfl
    refine done_ (done_of HT_.out (by kernel_rfl)) ?_
    try clear hHeld
    try go_wp2
    go_meet
    case rel => exact ⟨_, (true), zF, H', ⟨by first | omega | exact Nat.le_refl _⟩, ⟨zR HO358⟩, ⟨by (with_reducible repeat (first | apply Kd.R_alloc | apply Kd.R_drewN | apply Kd.R_drew)); exact Kd.R_mono HO352.out (fun _ hk => hk.1)⟩, ⟨by (with_reducible repeat (first | apply Kd.R_alloc | apply Kd.R_drewN | apply Kd.R_drew)); exact Kd.R_mono HO355.out (fun _ hk => hk.1)⟩, ⟨by (with_reducible repeat (first | apply Kd.R_alloc | apply Kd.R_drewN | apply Kd.R_drew)); exact Kd.R_mono HO363.out (fun _ hk => hk.1)⟩, ⟨by (with_reducible repeat (first | apply Kd.R_alloc | apply Kd.R_drewN | apply Kd.R_drew)); exact Kd.R_mono HO366.out (fun _ hk => hk.1)⟩, ⟨zK BK359⟩, ⟨zK BK367⟩, ⟨zB HB⟩⟩
  case rest =>
   clear HC6
   try clear c1
   try clear c2
   try clear p2
   try clear c9
   try clear c15
   try clear c16
   try clear c20
   obtain ⟨kq, x34_5, rfl, HA, HJ5, HO_4, HO_360001, HO_360002, HO_368001, HO_368002, BK359, BK367, HB⟩ := hcut
   cases kq with
   | zero => exact absurd HA.out (by simp [laws_FnMachines.j0])
   | succ kj5 =>
    have H := HA.out
    clear HA
    simp only [laws_FnMachines.j0] at H
    by_cases c37 : x34_5 = true
    ·subst c37
     have H1 : (some false) = some r := by rw [if_pos rfl] at H; exact H
     clear H
     have H := H1
     clear H1
     exact absurd H (by simp [ht_])
    ·replace c37 := Bool.eq_false_iff.mpr c37
     subst c37
     have H1 : (laws_FnMachines.l0 kj5 l0 t356 (([] : List Int)) 0 t349 t350 t353 t360 t361 t364) = some r := by rw [if_neg (show ¬ (false = true) by decide)] at H; exact H
     clear H
     have H := H1
     clear H1
     obtain ⟨y378, hy378⟩ : ∃ y_ : List Int, y_ = (([] : List Int)) := ⟨_, rfl⟩
     replace H : (laws_FnMachines.l0 kj5 l0 t356 y378 0 t349 t350 t353 t360 t361 t364) = some r := by first | (rw [hy378]; with_reducible exact H) | (have H2_ := (Option.bind_some _ _).symm.trans H; rw [hy378]; with_reducible exact H2_) | (have H2_ := (Option.bind_some _ _).symm.trans H; with_reducible exact H2_) | with_reducible exact H | (rw [hy378]; exact H) | exact H
     have Ny378 := Aside0.mk hy378
     clear hy378
     have H' := Aside0.mk H
     clear H
     go_wp2_with (first | ((with_reducible refine gate_dst (N := 35) rfl ?_); refine Kd.R_lit (Kd.int .i64) _ 3 ?hg (N := 35) ?hd (xs := ([] : List Int)) (inner := []) (ok := fun _ => True) (okp := fun _ => True) ?hr ?hp (fun _ hk => hk) trivial (Below.refl _ _) (Nat.le_refl _) (by simp) ?_; (case hd => rfl); (case hg => rfl); (case hr => first | (go_simp; done) | (go_simp; rfl)); (case hp => exact (Reps.none _ _)); intro v379 w38 ho39 hb hg_ hnew_; clear hg_ hnew_; (first | rw [← Ny378.out] at ho39 | (simp only [Int.reduceToNat] at ho39; rw [← Ny378.out] at ho39)); have n0_ := Aside0.mk (Kd.R_elder' (zR HO_4) (Kd.R_base ho39) hb); have n1_ := Aside0.mk (Kd.R_below (zR HO_360001) hb); have n2_ := Aside0.mk (Kd.R_below (zR HO_360002) hb); have n3_ := Aside0.mk (Kd.R_below (zR HO_368001) hb); have n4_ := Aside0.mk (Kd.R_below (zR HO_368002) hb); have n5_ := Aside0.mk (Kd.R_lower (Kd.R_new' ho39 (Kd.R_lt (zR HO_4))) (below_size (zB HB))); have n6_ := kB BK359 hb; have n7_ := kB BK367 hb; have n8_ := bS HB hb; clear HO_4; clear HO_360001; clear HO_360002; clear HO_368001; clear HO_368002; clear BK359; clear BK367; clear HB; have HO_4 := n0_; have HO_360001 := n1_; have HO_360002 := n2_; have HO_368001 := n3_; have HO_368002 := n4_; have HO380 := n5_; have BK359 := n6_; have BK367 := n7_; have HB := n8_; clear n0_ n1_ n2_ n3_ n4_ n5_ n6_ n7_ n8_; clear hb ho39))
     go_loopg [6, 7] kj5 (fun kq v6 v7 w' => ∃ (x6_2 : List Int) (x7_2 : Int), v7 = .int .i64 x7_2 ∧ Aside0 (laws_FnMachines.l0 kq l0 t356 x6_2 x7_2 t349 t350 t353 t360 t361 t364 = some r) ∧ Aside0 (kq ≤ kj5) ∧ Aside0 (Kd.R (Kd.int .i64) 3 w' w.heap.size (fun k_ => some k_ ≠ (v6 : Value).ownBlock) v357 t356) ∧ Aside0 (Kd.R (Kd.int .i64) 3 w' w.heap.size (fun k_ => some k_ ≠ (v357 : Value).ownBlock) v6 x6_2) ∧ Aside0 (Kd.R Kd.bool 4 w' w.heap.size (fun k_ => some k_ ≠ ((.slice Ao16 t361.length co16) : Value).ownBlock) (.slice Ao10 t350.length co10) t350) ∧ Aside0 (Kd.R k54 54 w' w.heap.size (fun k_ => some k_ ≠ ((.slice Ao17 t364.length co17) : Value).ownBlock) (.slice Ao11 t353.length co11) t353) ∧ Aside0 (Kd.R Kd.bool 4 w' w.heap.size (fun k_ => some k_ ≠ ((.slice Ao10 t350.length co10) : Value).ownBlock) (.slice Ao16 t361.length co16) t361) ∧ Aside0 (Kd.R k54 54 w' w.heap.size (fun k_ => some k_ ≠ ((.slice Ao11 t353.length co11) : Value).ownBlock) (.slice Ao17 t364.length co17) t364) ∧ Aside0 (w'.heap[gb359]? = some (.cells #[.int .i64 t349, (.slice Ao10 t350.length co10), (.slice Ao11 t353.length co11)] 29 (0, 0))) ∧ Aside0 (w'.heap[gb367]? = some (.cells #[.int .i64 t360, (.slice Ao16 t361.length co16), (.slice Ao17 t364.length co17)] 29 (0, 0))) ∧ Aside0 (Below w.heap.size w w'))
     case atStart => exact ⟨(y378), (0), zF, H', ⟨Nat.le_refl _⟩, ⟨by (with_reducible repeat (first | apply Kd.R_alloc | apply Kd.R_drewN | apply Kd.R_drew)); exact Kd.R_mono HO_4.out (fun _ hk => hk.2)⟩, ⟨by (with_reducible repeat (first | apply Kd.R_alloc | apply Kd.R_drewN | apply Kd.R_drew)); exact Kd.R_mono HO380.out (fun _ hk => hk.2)⟩, ⟨zR HO_360001⟩, ⟨zR HO_360002⟩, ⟨zR HO_368001⟩, ⟨zR HO_368002⟩, ⟨zK BK359⟩, ⟨zK BK367⟩, ⟨zB HB⟩⟩
     case round =>
      clear H'
      try clear c1
      try clear c2
      try clear p2
      try clear c3
      try clear c9
      try clear c15
      try clear c16
      try clear c20
      try clear c37
      try clear p2
      obtain ⟨x6_2, x7_2, rfl, HA, HK2, HO_4, HO_6, HO_360001, HO_360002, HO_368001, HO_368002, BK359, BK367, HB⟩ := hrel
      cases gk with
      | zero => exact absurd HA.out (by simp [laws_FnMachines.l0])
      | succ k2 =>
       have H := HA.out
       clear HA
       simp only [laws_FnMachines.l0] at H
       by_cases c40 : x7_2 < (t356.length : Int)
       ·rw [if_pos c40] at H
        have c40b0 : decide (x7_2 < (t356.length : Int)) = true := decide_eq_true c40
        clear c40
        by_cases c41 : 0 ≤ x7_2
        ·rw [if_pos c41] at H
         have c41b0 : decide (0 ≤ x7_2) = true := decide_eq_true c41
         clear c41
         by_cases c42 : x6_2.length < 17592186044416
         ·rw [if_pos c42] at H
          have LMc42 := Aside0.mk c42
          clear c42
          obtain ⟨y382, hy382⟩ : ∃ y_ : List Int, y_ = (x6_2 ++ [wrap64 (-(wrap64 ((rd t356 x7_2) + 1)))]) := ⟨_, rfl⟩
          replace H : (laws_FnMachines.l0 k2 l0 t356 y382 (wrap64 (x7_2 + 1)) t349 t350 t353 t360 t361 t364) = some r := by first | (rw [hy382]; with_reducible exact H) | (have H2_ := (Option.bind_some _ _).symm.trans H; rw [hy382]; with_reducible exact H2_) | (have H2_ := (Option.bind_some _ _).symm.trans H; with_reducible exact H2_) | with_reducible exact H | (rw [hy382]; exact H) | exact H
          have Ny382 := Aside0.mk hy382
          clear hy382
          have H' := Aside0.mk H
          clear H
          obtain ⟨Ao43, co43, eo43⟩ := Kd.R_slice HO_4.out
          subst eo43
          have p381 : 0 ≤ (x7_2 : Int) := of_decide_eq_true (by first | (with_reducible assumption) | assumption)
          have q381 : x7_2 < (t356.length : Int) := of_decide_eq_true (by first | (with_reducible assumption) | assumption)
          obtain ⟨ad381, e381, hx381_0⟩ := Kd.at_int (Kd.R_reads' HO_4.out).2.2 x7_2 p381 q381
          cases e381
          replace p381 := eq_true p381
          replace q381 := eq_true q381
          go_wp2_with (first | ((with_reducible refine gate_builtin (b := .append) (xs := #[.tmp 42, .tmp 49]) rfl ?_); at_builtin; refine Kd.R_append (Kd.int .i64) (w0 := w) w.heap.size rfl (.tmp 42) (.tmp 49) 37 3 (.int .i64 0) 8 rfl Try.underlying37 info3 rfl (by decide) (by omega) u6 x6_2 (wrap64 (-(wrap64 ((rd t356 x7_2) + 1)))) [.int .i64 (wrap64 (-(wrap64 ((rd t356 x7_2) + 1))))] (fun k_ => some k_ ≠ (.slice (some ad381) t356.length co43 : Value).ownBlock) (fun _ => False) rfl rfl ?aP (fun _ hk => hk.elim) ?aF ?aO ?aB ?aS ?aL ?_; (case aP => exact rfl); (case aB => exact (zB HB)); (case aF => exact (fun k_ hk => Kd.fresh' (Kd.R_lt (zR HO_4)) k_ hk)); (case aO => exact (zR HO_6)); (case aS => exact (below_size (zB HB))); (case aL => have := LMc42.out; omega); intro v383 w44 ho hb hg hat; rw [← Ny382.out] at ho; have n0_ := Aside0.mk (Kd.R_after (ok := (fun _ => True)) (by (with_reducible repeat (first | apply Kd.R_alloc | apply Kd.R_drewN | apply Kd.R_drew)); exact Kd.R_mono HO_4.out (fun _ hk => ⟨trivial, hk⟩)) hg hat); have n1_ := Aside0.mk (Kd.R_over' (zR HO_360001) (Kd.R_typed (zR HO_6)) (by decide) hg); have n2_ := Aside0.mk (Kd.R_over' (zR HO_360002) (Kd.R_typed (zR HO_6)) (by decide) hg); have n3_ := Aside0.mk (Kd.R_over' (zR HO_368001) (Kd.R_typed (zR HO_6)) (by decide) hg); have n4_ := Aside0.mk (Kd.R_over' (zR HO_368002) (Kd.R_typed (zR HO_6)) (by decide) hg); have n5_ := Aside0.mk (blk_grown (g := gb359) (o := .cells #[.int .i64 t349, .slice Ao10 t350.length co10, .slice Ao11 t353.length co11] 29 (0, 0)) (zK BK359) hg (Kd.R_ne HO_6.out BK359.out (by decide))); have n6_ := Aside0.mk (blk_grown (g := gb367) (o := .cells #[.int .i64 t360, .slice Ao16 t361.length co16, .slice Ao17 t364.length co17] 29 (0, 0)) (zK BK367) hg (Kd.R_ne HO_6.out BK367.out (by decide))); have n7_ := Aside0.mk (hb); have n8_ := Aside0.mk (ho); clear HO_4; clear HO_360001; clear HO_360002; clear HO_368001; clear HO_368002; clear BK359; clear BK367; clear HB; clear HO_6; have HO_4 := n0_; have HO_360001 := n1_; have HO_360002 := n2_; have HO_368001 := n3_; have HO_368002 := n4_; have BK359 := n5_; have BK367 := n6_; have HB := n7_; have HO384 := n8_; clear n0_ n1_ n2_ n3_ n4_ n5_ n6_ n7_ n8_; clear ho hb hg hat))
          go_roundg k2
          case measure => have := HJ5.out; have := HK2.out; omega
          case rel => exact ⟨(y382), (wrap64 (x7_2 + 1)), zF, H', ⟨by have := HJ5.out; have := HK2.out; omega⟩, ⟨by (with_reducible repeat (first | apply Kd.R_alloc | apply Kd.R_drewN | apply Kd.R_drew)); exact Kd.R_mono HO_4.out (fun _ hk => hk.2)⟩, ⟨zR HO384⟩, ⟨zR HO_360001⟩, ⟨zR HO_360002⟩, ⟨zR HO_368001⟩, ⟨zR HO_368002⟩, ⟨zK BK359⟩, ⟨zK BK367⟩, ⟨zB HB⟩⟩
         ·rw [if_neg c42] at H
          exact absurd H (by simp)
        ·rw [if_neg c41] at H
         exact absurd H (by simp)
       ·rw [if_neg c40] at H
        have c40b0 : decide (x7_2 < (t356.length : Int)) = false := decide_eq_false c40
        clear c40
        replace H := Option.bind_eq_some_iff.mp H
        obtain ⟨t385, A450, H⟩ := H
        replace H : ((impl_RunMachine.f k2 t360 t361 t364 x6_2).bind fun t386 => (if t385 = t386 then (if t385 ≥ 0 then ((impl_IsMachine.f k2 t349 t350 t353).bind fun t387 => (if t387 = true then (laws_FnMachines.j2 k2 l0 (decide (t385 ≥ t349))) else (laws_FnMachines.j2 k2 l0 true))) else (laws_FnMachines.j2 k2 l0 false)) else (laws_FnMachines.j2 k2 l0 true))) = some r := H
        have A45 := Aside0.mk A450
        clear A450
        have HC46 := Aside0.mk H
        clear H
        obtain ⟨Ao47, co47, eo47⟩ := Kd.R_slice HO_4.out
        subst eo47
        have hnb48 := NB359_367.out
        have hnc48 := NB367_359.out
        have hcz49_0 := bc0 BK359
        have hcz49_1 := bc1 BK359
        have hcz49_2 := bc2 BK359
        have hfz49_0 := bf BK359 0
        have hfz49_1 := bf BK359 1
        have hfz49_2 := bf BK359 2
        go_upto_region 13 with (first | ((with_reducible refine gate_callee (f := 17) rfl ?_); refine goesL_ (some 53) rfl rfl Try.func17 (by kernel_rfl) rfl #[.agg #[.int .i64 t349, .slice Ao10 t350.length co10, .slice Ao11 t353.length co11], .slice Ao47 t356.length co47] rfl zG ?_; (with_reducible refine (impl_RunMachine.calls k2 t349 _ _ t350 _ _ t353 _ _ t356 t385 _ ?side1 ?side2 ?side3 ?side4 ?side5 ?side6 A45.out).mono ?_); (case side1 => repeat (first | exact (Kd.R_reads' HO_360001.out).2.2 | (with_reducible refine Kd.C_alloc ?_ _) | (with_reducible refine Kd.C_drewN ?_ _) | (with_reducible refine Kd.C_drew ?_))); (case side2 => exact (Kd.R_reads' HO_360001.out).2.1); (case side3 => repeat (first | exact (Kd.R_reads' HO_360002.out).2.2 | (with_reducible refine Kd.C_alloc ?_ _) | (with_reducible refine Kd.C_drewN ?_ _) | (with_reducible refine Kd.C_drew ?_))); (case side4 => exact (Kd.R_reads' HO_360002.out).2.1); (case side5 => repeat (first | exact (Kd.R_reads' HO_4.out).2.2 | (with_reducible refine Kd.C_alloc ?_ _) | (with_reducible refine Kd.C_drewN ?_ _) | (with_reducible refine Kd.C_drew ?_))); (case side6 => exact (Kd.R_reads' HO_4.out).2.1); rintro e w50 ⟨rfl, hb⟩; refine ⟨_, rfl, ?_⟩; have n0_ := Aside0.mk (Kd.R_below (zR HO_4) hb); have n1_ := Aside0.mk (Kd.R_below (zR HO_6) hb); have n2_ := Aside0.mk (Kd.R_below (zR HO_360001) hb); have n3_ := Aside0.mk (Kd.R_below (zR HO_360002) hb); have n4_ := Aside0.mk (Kd.R_below (zR HO_368001) hb); have n5_ := Aside0.mk (Kd.R_below (zR HO_368002) hb); have n6_ := kB BK359 hb; have n7_ := kB BK367 hb; have n8_ := bS HB hb; clear HO_4; clear HO_6; clear HO_360001; clear HO_360002; clear HO_368001; clear HO_368002; clear BK359; clear BK367; clear HB; have HO_4 := n0_; have HO_6 := n1_; have HO_360001 := n2_; have HO_360002 := n3_; have HO_368001 := n4_; have HO_368002 := n5_; have BK359 := n6_; have BK367 := n7_; have HB := n8_; clear n0_ n1_ n2_ n3_ n4_ n5_ n6_ n7_ n8_; (try clear hb)))
        (try simp only [Act.put, List.setIfInBounds_toArray, List.set_cons_zero, List.set_cons_succ])
        go_cut [73] (fun v73 wc => ∃ (kq : Nat) (x73_45 : Bool), v73 = .bool x73_45 ∧ Aside0 (laws_FnMachines.j2 kq l0 x73_45 = some r) ∧ Aside0 (kq ≤ k2) ∧ Aside0 (Kd.R Kd.bool 4 wc w.heap.size (fun k_ => some k_ ≠ ((.slice Ao16 t361.length co16) : Value).ownBlock) (.slice Ao10 t350.length co10) t350) ∧ Aside0 (Kd.R k54 54 wc w.heap.size (fun k_ => some k_ ≠ ((.slice Ao17 t364.length co17) : Value).ownBlock) (.slice Ao11 t353.length co11) t353) ∧ Aside0 (Kd.R Kd.bool 4 wc w.heap.size (fun k_ => some k_ ≠ ((.slice Ao10 t350.length co10) : Value).ownBlock) (.slice Ao16 t361.length co16) t361) ∧ Aside0 (Kd.R k54 54 wc w.heap.size (fun k_ => some k_ ≠ ((.slice Ao11 t353.length co11) : Value).ownBlock) (.slice Ao17 t364.length co17) t364) ∧ Aside0 (wc.heap[gb359]? = some (.cells #[.int .i64 t349, (.slice Ao10 t350.length co10), (.slice Ao11 t353.length co11)] 29 (0, 0))) ∧ Aside0 (wc.heap[gb367]? = some (.cells #[.int .i64 t360, (.slice Ao16 t361.length co16), (.slice Ao17 t364.length co17)] 29 (0, 0))) ∧ Aside0 (Below w.heap.size w wc))
        case first =>
         have H := HC46.out
         clear HC46
         replace H := Option.bind_eq_some_iff.mp H
         obtain ⟨t386, A510, H⟩ := H
         replace H : (if t385 = t386 then (if t385 ≥ 0 then ((impl_IsMachine.f k2 t349 t350 t353).bind fun t387 => (if t387 = true then (laws_FnMachines.j2 k2 l0 (decide (t385 ≥ t349))) else (laws_FnMachines.j2 k2 l0 true))) else (laws_FnMachines.j2 k2 l0 false)) else (laws_FnMachines.j2 k2 l0 true)) = some r := H
         have A51 := Aside0.mk A510
         clear A510
         by_cases c52 : t385 = t386
         ·rw [if_pos c52] at H
          have c52b0 : (t385 == t386) = true := beq_iff_eq.mpr c52
          have c52b1 : (t385 != t386) = false := bne_eq_false_iff_eq.mpr c52
          clear c52
          (first | rw [c52b0] | (simp only [i64_w, i32_w]; rw [c52b0]) | skip)
          by_cases c53 : t385 ≥ 0
          ·rw [if_pos c53] at H
           have c53b0 : decide (0 ≤ t385) = true := decide_eq_true c53
           clear c53
           replace H := Option.bind_eq_some_iff.mp H
           obtain ⟨t387, A540, H⟩ := H
           replace H : (if t387 = true then (laws_FnMachines.j2 k2 l0 (decide (t385 ≥ t349))) else (laws_FnMachines.j2 k2 l0 true)) = some r := H
           have A54 := Aside0.mk A540
           clear A540
           by_cases c55 : t387 = true
           ·subst c55
            have H1 : (laws_FnMachines.j2 k2 l0 (decide (t385 ≥ t349))) = some r := by rw [if_pos rfl] at H; exact H
            clear H
            have H := H1
            clear H1
            have H' := Aside0.mk H
            clear H
            have hnb56 := NB367_359.out
            have hnc56 := NB359_367.out
            have hcz57_0 := bc0 BK367
            have hcz57_1 := bc1 BK367
            have hcz57_2 := bc2 BK367
            have hfz57_0 := bf BK367 0
            have hfz57_1 := bf BK367 1
            have hfz57_2 := bf BK367 2
            obtain ⟨Ao58, co58, eo58⟩ := Kd.R_slice HO_6.out
            subst eo58
            go_wp2_with (first | ((with_reducible refine gate_callee (f := 17) rfl ?_); refine goesL_ (some 57) rfl rfl Try.func17 (by kernel_rfl) rfl #[.agg #[.int .i64 t360, .slice Ao16 t361.length co16, .slice Ao17 t364.length co17], .slice Ao58 x6_2.length co58] rfl zG ?_; (with_reducible refine (impl_RunMachine.calls k2 t360 _ _ t361 _ _ t364 _ _ x6_2 t386 _ ?side1 ?side2 ?side3 ?side4 ?side5 ?side6 A51.out).mono ?_); (case side1 => repeat (first | exact (Kd.R_reads' HO_368001.out).2.2 | (with_reducible refine Kd.C_alloc ?_ _) | (with_reducible refine Kd.C_drewN ?_ _) | (with_reducible refine Kd.C_drew ?_))); (case side2 => exact (Kd.R_reads' HO_368001.out).2.1); (case side3 => repeat (first | exact (Kd.R_reads' HO_368002.out).2.2 | (with_reducible refine Kd.C_alloc ?_ _) | (with_reducible refine Kd.C_drewN ?_ _) | (with_reducible refine Kd.C_drew ?_))); (case side4 => exact (Kd.R_reads' HO_368002.out).2.1); (case side5 => repeat (first | exact (Kd.R_reads' HO_6.out).2.2 | (with_reducible refine Kd.C_alloc ?_ _) | (with_reducible refine Kd.C_drewN ?_ _) | (with_reducible refine Kd.C_drew ?_))); (case side6 => exact (Kd.R_reads' HO_6.out).2.1); rintro e w59 ⟨rfl, hb⟩; refine ⟨_, rfl, ?_⟩; have n0_ := Aside0.mk (Kd.R_below (zR HO_4) hb); have n1_ := Aside0.mk (Kd.R_below (zR HO_6) hb); have n2_ := Aside0.mk (Kd.R_below (zR HO_360001) hb); have n3_ := Aside0.mk (Kd.R_below (zR HO_360002) hb); have n4_ := Aside0.mk (Kd.R_below (zR HO_368001) hb); have n5_ := Aside0.mk (Kd.R_below (zR HO_368002) hb); have n6_ := kB BK359 hb; have n7_ := kB BK367 hb; have n8_ := bS HB hb; clear HO_4; clear HO_6; clear HO_360001; clear HO_360002; clear HO_368001; clear HO_368002; clear BK359; clear BK367; clear HB; have HO_4 := n0_; have HO_6 := n1_; have HO_360001 := n2_; have HO_360002 := n3_; have HO_368001 := n4_; have HO_368002 := n5_; have BK359 := n6_; have BK367 := n7_; have HB := n8_; clear n0_ n1_ n2_ n3_ n4_ n5_ n6_ n7_ n8_; (try clear hb); have hcz60_0 := bc0 BK359; have hcz60_1 := bc1 BK359; have hcz60_2 := bc2 BK359; have hfz60_0 := bf BK359 0; have hfz60_1 := bf BK359 1; have hfz60_2 := bf BK359 2) | (go_at_call 16; (with_reducible refine (impl_IsMachine.calls k2 t349 _ _ t350 _ _ t353 true _ ?side1 ?side2 ?side3 ?side4 A54.out).mono ?_); (case side1 => repeat (first | exact (Kd.R_reads' HO_360001.out).2.2 | (with_reducible refine Kd.C_alloc ?_ _) | (with_reducible refine Kd.C_drewN ?_ _) | (with_reducible refine Kd.C_drew ?_))); (case side2 => exact (Kd.R_reads' HO_360001.out).2.1); (case side3 => repeat (first | exact (Kd.R_reads' HO_360002.out).2.2 | (with_reducible refine Kd.C_alloc ?_ _) | (with_reducible refine Kd.C_drewN ?_ _) | (with_reducible refine Kd.C_drew ?_))); (case side4 => exact (Kd.R_reads' HO_360002.out).2.1); rintro e w61 ⟨rfl, hb⟩; have n0_ := Aside0.mk (Kd.R_below (zR HO_4) hb); have n1_ := Aside0.mk (Kd.R_below (zR HO_6) hb); have n2_ := Aside0.mk (Kd.R_below (zR HO_360001) hb); have n3_ := Aside0.mk (Kd.R_below (zR HO_360002) hb); have n4_ := Aside0.mk (Kd.R_below (zR HO_368001) hb); have n5_ := Aside0.mk (Kd.R_below (zR HO_368002) hb); have n6_ := kB BK359 hb; have n7_ := kB BK367 hb; have n8_ := bS HB hb; clear HO_4; clear HO_6; clear HO_360001; clear HO_360002; clear HO_368001; clear HO_368002; clear BK359; clear BK367; clear HB; have HO_4 := n0_; have HO_6 := n1_; have HO_360001 := n2_; have HO_360002 := n3_; have HO_368001 := n4_; have HO_368002 := n5_; have BK359 := n6_; have BK367 := n7_; have HB := n8_; clear n0_ n1_ n2_ n3_ n4_ n5_ n6_ n7_ n8_; (try clear hb); have hcz62_0 := bc0 BK359; have hcz62_1 := bc1 BK359; have hcz62_2 := bc2 BK359; have hfz62_0 := bf BK359 0; have hfz62_1 := bf BK359 1; have hfz62_2 := bf BK359 2))
            go_meet
            case rel => exact ⟨_, (decide (t385 ≥ t349)), zF, H', ⟨by have := HJ5.out; have := HK2.out; first | omega | exact Nat.le_refl _⟩, ⟨zR HO_360001⟩, ⟨zR HO_360002⟩, ⟨zR HO_368001⟩, ⟨zR HO_368002⟩, ⟨zK BK359⟩, ⟨zK BK367⟩, ⟨zB HB⟩⟩
           ·replace c55 := Bool.eq_false_iff.mpr c55
            subst c55
            have H1 : (laws_FnMachines.j2 k2 l0 true) = some r := by rw [if_neg (show ¬ (false = true) by decide)] at H; exact H
            clear H
            have H := H1
            clear H1
            have H' := Aside0.mk H
            clear H
            have hnb63 := NB367_359.out
            have hnc63 := NB359_367.out
            have hcz64_0 := bc0 BK367
            have hcz64_1 := bc1 BK367
            have hcz64_2 := bc2 BK367
            have hfz64_0 := bf BK367 0
            have hfz64_1 := bf BK367 1
            have hfz64_2 := bf BK367 2
            obtain ⟨Ao65, co65, eo65⟩ := Kd.R_slice HO_6.out
            subst eo65
            go_wp2_with (first | ((with_reducible refine gate_callee (f := 17) rfl ?_); refine goesL_ (some 57) rfl rfl Try.func17 (by kernel_rfl) rfl #[.agg #[.int .i64 t360, .slice Ao16 t361.length co16, .slice Ao17 t364.length co17], .slice Ao65 x6_2.length co65] rfl zG ?_; (with_reducible refine (impl_RunMachine.calls k2 t360 _ _ t361 _ _ t364 _ _ x6_2 t386 _ ?side1 ?side2 ?side3 ?side4 ?side5 ?side6 A51.out).mono ?_); (case side1 => repeat (first | exact (Kd.R_reads' HO_368001.out).2.2 | (with_reducible refine Kd.C_alloc ?_ _) | (with_reducible refine Kd.C_drewN ?_ _) | (with_reducible refine Kd.C_drew ?_))); (case side2 => exact (Kd.R_reads' HO_368001.out).2.1); (case side3 => repeat (first | exact (Kd.R_reads' HO_368002.out).2.2 | (with_reducible refine Kd.C_alloc ?_ _) | (with_reducible refine Kd.C_drewN ?_ _) | (with_reducible refine Kd.C_drew ?_))); (case side4 => exact (Kd.R_reads' HO_368002.out).2.1); (case side5 => repeat (first | exact (Kd.R_reads' HO_6.out).2.2 | (with_reducible refine Kd.C_alloc ?_ _) | (with_reducible refine Kd.C_drewN ?_ _) | (with_reducible refine Kd.C_drew ?_))); (case side6 => exact (Kd.R_reads' HO_6.out).2.1); rintro e w66 ⟨rfl, hb⟩; refine ⟨_, rfl, ?_⟩; have n0_ := Aside0.mk (Kd.R_below (zR HO_4) hb); have n1_ := Aside0.mk (Kd.R_below (zR HO_6) hb); have n2_ := Aside0.mk (Kd.R_below (zR HO_360001) hb); have n3_ := Aside0.mk (Kd.R_below (zR HO_360002) hb); have n4_ := Aside0.mk (Kd.R_below (zR HO_368001) hb); have n5_ := Aside0.mk (Kd.R_below (zR HO_368002) hb); have n6_ := kB BK359 hb; have n7_ := kB BK367 hb; have n8_ := bS HB hb; clear HO_4; clear HO_6; clear HO_360001; clear HO_360002; clear HO_368001; clear HO_368002; clear BK359; clear BK367; clear HB; have HO_4 := n0_; have HO_6 := n1_; have HO_360001 := n2_; have HO_360002 := n3_; have HO_368001 := n4_; have HO_368002 := n5_; have BK359 := n6_; have BK367 := n7_; have HB := n8_; clear n0_ n1_ n2_ n3_ n4_ n5_ n6_ n7_ n8_; (try clear hb); have hcz67_0 := bc0 BK359; have hcz67_1 := bc1 BK359; have hcz67_2 := bc2 BK359; have hfz67_0 := bf BK359 0; have hfz67_1 := bf BK359 1; have hfz67_2 := bf BK359 2) | (go_at_call 16; (with_reducible refine (impl_IsMachine.calls k2 t349 _ _ t350 _ _ t353 false _ ?side1 ?side2 ?side3 ?side4 A54.out).mono ?_); (case side1 => repeat (first | exact (Kd.R_reads' HO_360001.out).2.2 | (with_reducible refine Kd.C_alloc ?_ _) | (with_reducible refine Kd.C_drewN ?_ _) | (with_reducible refine Kd.C_drew ?_))); (case side2 => exact (Kd.R_reads' HO_360001.out).2.1); (case side3 => repeat (first | exact (Kd.R_reads' HO_360002.out).2.2 | (with_reducible refine Kd.C_alloc ?_ _) | (with_reducible refine Kd.C_drewN ?_ _) | (with_reducible refine Kd.C_drew ?_))); (case side4 => exact (Kd.R_reads' HO_360002.out).2.1); rintro e w68 ⟨rfl, hb⟩; have n0_ := Aside0.mk (Kd.R_below (zR HO_4) hb); have n1_ := Aside0.mk (Kd.R_below (zR HO_6) hb); have n2_ := Aside0.mk (Kd.R_below (zR HO_360001) hb); have n3_ := Aside0.mk (Kd.R_below (zR HO_360002) hb); have n4_ := Aside0.mk (Kd.R_below (zR HO_368001) hb); have n5_ := Aside0.mk (Kd.R_below (zR HO_368002) hb); have n6_ := kB BK359 hb; have n7_ := kB BK367 hb; have n8_ := bS HB hb; clear HO_4; clear HO_6; clear HO_360001; clear HO_360002; clear HO_368001; clear HO_368002; clear BK359; clear BK367; clear HB; have HO_4 := n0_; have HO_6 := n1_; have HO_360001 := n2_; have HO_360002 := n3_; have HO_368001 := n4_; have HO_368002 := n5_; have BK359 := n6_; have BK367 := n7_; have HB := n8_; clear n0_ n1_ n2_ n3_ n4_ n5_ n6_ n7_ n8_; (try clear hb)))
            go_meet
            case rel => exact ⟨_, (true), zF, H', ⟨by have := HJ5.out; have := HK2.out; first | omega | exact Nat.le_refl _⟩, ⟨zR HO_360001⟩, ⟨zR HO_360002⟩, ⟨zR HO_368001⟩, ⟨zR HO_368002⟩, ⟨zK BK359⟩, ⟨zK BK367⟩, ⟨zB HB⟩⟩
          ·rw [if_neg c53] at H
           have c53b0 : decide (0 ≤ t385) = false := decide_eq_false c53
           clear c53
           have H' := Aside0.mk H
           clear H
           have hnb69 := NB367_359.out
           have hnc69 := NB359_367.out
           have hcz70_0 := bc0 BK367
           have hcz70_1 := bc1 BK367
           have hcz70_2 := bc2 BK367
           have hfz70_0 := bf BK367 0
           have hfz70_1 := bf BK367 1
           have hfz70_2 := bf BK367 2
           obtain ⟨Ao71, co71, eo71⟩ := Kd.R_slice HO_6.out
           subst eo71
           go_wp2_with (first | ((with_reducible refine gate_callee (f := 17) rfl ?_); refine goesL_ (some 57) rfl rfl Try.func17 (by kernel_rfl) rfl #[.agg #[.int .i64 t360, .slice Ao16 t361.length co16, .slice Ao17 t364.length co17], .slice Ao71 x6_2.length co71] rfl zG ?_; (with_reducible refine (impl_RunMachine.calls k2 t360 _ _ t361 _ _ t364 _ _ x6_2 t386 _ ?side1 ?side2 ?side3 ?side4 ?side5 ?side6 A51.out).mono ?_); (case side1 => repeat (first | exact (Kd.R_reads' HO_368001.out).2.2 | (with_reducible refine Kd.C_alloc ?_ _) | (with_reducible refine Kd.C_drewN ?_ _) | (with_reducible refine Kd.C_drew ?_))); (case side2 => exact (Kd.R_reads' HO_368001.out).2.1); (case side3 => repeat (first | exact (Kd.R_reads' HO_368002.out).2.2 | (with_reducible refine Kd.C_alloc ?_ _) | (with_reducible refine Kd.C_drewN ?_ _) | (with_reducible refine Kd.C_drew ?_))); (case side4 => exact (Kd.R_reads' HO_368002.out).2.1); (case side5 => repeat (first | exact (Kd.R_reads' HO_6.out).2.2 | (with_reducible refine Kd.C_alloc ?_ _) | (with_reducible refine Kd.C_drewN ?_ _) | (with_reducible refine Kd.C_drew ?_))); (case side6 => exact (Kd.R_reads' HO_6.out).2.1); rintro e w72 ⟨rfl, hb⟩; refine ⟨_, rfl, ?_⟩; have n0_ := Aside0.mk (Kd.R_below (zR HO_4) hb); have n1_ := Aside0.mk (Kd.R_below (zR HO_6) hb); have n2_ := Aside0.mk (Kd.R_below (zR HO_360001) hb); have n3_ := Aside0.mk (Kd.R_below (zR HO_360002) hb); have n4_ := Aside0.mk (Kd.R_below (zR HO_368001) hb); have n5_ := Aside0.mk (Kd.R_below (zR HO_368002) hb); have n6_ := kB BK359 hb; have n7_ := kB BK367 hb; have n8_ := bS HB hb; clear HO_4; clear HO_6; clear HO_360001; clear HO_360002; clear HO_368001; clear HO_368002; clear BK359; clear BK367; clear HB; have HO_4 := n0_; have HO_6 := n1_; have HO_360001 := n2_; have HO_360002 := n3_; have HO_368001 := n4_; have HO_368002 := n5_; have BK359 := n6_; have BK367 := n7_; have HB := n8_; clear n0_ n1_ n2_ n3_ n4_ n5_ n6_ n7_ n8_; (try clear hb)))
           go_meet
           case rel => exact ⟨_, (false), zF, H', ⟨by have := HJ5.out; have := HK2.out; first | omega | exact Nat.le_refl _⟩, ⟨zR HO_360001⟩, ⟨zR HO_360002⟩, ⟨zR HO_368001⟩, ⟨zR HO_368002⟩, ⟨zK BK359⟩, ⟨zK BK367⟩, ⟨zB HB⟩⟩
         ·rw [if_neg c52] at H
          have c52b0 : (t385 == t386) = false := beq_eq_false_iff_ne.mpr c52
          have c52b1 : (t385 != t386) = true := bne_iff_ne.mpr c52
          (first | rw [c52b0] | (simp only [i64_w, i32_w]; rw [c52b0]) | skip)
          have H' := Aside0.mk H
          clear H
          have hnb73 := NB367_359.out
          have hnc73 := NB359_367.out
          have hcz74_0 := bc0 BK367
          have hcz74_1 := bc1 BK367
          have hcz74_2 := bc2 BK367
          have hfz74_0 := bf BK367 0
          have hfz74_1 := bf BK367 1
          have hfz74_2 := bf BK367 2
          obtain ⟨Ao75, co75, eo75⟩ := Kd.R_slice HO_6.out
          subst eo75
          go_wp2_with (first | ((with_reducible refine gate_callee (f := 17) rfl ?_); refine goesL_ (some 57) rfl rfl Try.func17 (by kernel_rfl) rfl #[.agg #[.int .i64 t360, .slice Ao16 t361.length co16, .slice Ao17 t364.length co17], .slice Ao75 x6_2.length co75] rfl zG ?_; (with_reducible refine (impl_RunMachine.calls k2 t360 _ _ t361 _ _ t364 _ _ x6_2 t386 _ ?side1 ?side2 ?side3 ?side4 ?side5 ?side6 A51.out).mono ?_); (case side1 => repeat (first | exact (Kd.R_reads' HO_368001.out).2.2 | (with_reducible refine Kd.C_alloc ?_ _) | (with_reducible refine Kd.C_drewN ?_ _) | (with_reducible refine Kd.C_drew ?_))); (case side2 => exact (Kd.R_reads' HO_368001.out).2.1); (case side3 => repeat (first | exact (Kd.R_reads' HO_368002.out).2.2 | (with_reducible refine Kd.C_alloc ?_ _) | (with_reducible refine Kd.C_drewN ?_ _) | (with_reducible refine Kd.C_drew ?_))); (case side4 => exact (Kd.R_reads' HO_368002.out).2.1); (case side5 => repeat (first | exact (Kd.R_reads' HO_6.out).2.2 | (with_reducible refine Kd.C_alloc ?_ _) | (with_reducible refine Kd.C_drewN ?_ _) | (with_reducible refine Kd.C_drew ?_))); (case side6 => exact (Kd.R_reads' HO_6.out).2.1); rintro e w76 ⟨rfl, hb⟩; refine ⟨_, rfl, ?_⟩; have n0_ := Aside0.mk (Kd.R_below (zR HO_4) hb); have n1_ := Aside0.mk (Kd.R_below (zR HO_6) hb); have n2_ := Aside0.mk (Kd.R_below (zR HO_360001) hb); have n3_ := Aside0.mk (Kd.R_below (zR HO_360002) hb); have n4_ := Aside0.mk (Kd.R_below (zR HO_368001) hb); have n5_ := Aside0.mk (Kd.R_below (zR HO_368002) hb); have n6_ := kB BK359 hb; have n7_ := kB BK367 hb; have n8_ := bS HB hb; clear HO_4; clear HO_6; clear HO_360001; clear HO_360002; clear HO_368001; clear HO_368002; clear BK359; clear BK367; clear HB; have HO_4 := n0_; have HO_6 := n1_; have HO_360001 := n2_; have HO_360002 := n3_; have HO_368001 := n4_; have HO_368002 := n5_; have BK359 := n6_; have BK367 := n7_; have HB := n8_; clear n0_ n1_ n2_ n3_ n4_ n5_ n6_ n7_ n8_; (try clear hb)))
          go_meet
          case rel => exact ⟨_, (true), zF, H', ⟨by have := HJ5.out; have := HK2.out; first | omega | exact Nat.le_refl _⟩, ⟨zR HO_360001⟩, ⟨zR HO_360002⟩, ⟨zR HO_368001⟩, ⟨zR HO_368002⟩, ⟨zK BK359⟩, ⟨zK BK367⟩, ⟨zB HB⟩⟩
        case rest =>
         clear HC46
         try clear c1
         try clear c2
         try clear p2
         try clear c3
         try clear p3
         try clear q3
         try clear hx3
         try clear c4
         try clear c5
         try clear c6
         try clear p6
         try clear c7
         try clear c9
         try clear c15
         try clear c16
         try clear c17
         try clear c20
         try clear c37
         try clear p38
         try clear q38
         try clear hx38
         try clear c40
         try clear c40b0
         try clear c41
         try clear c41b0
         try clear c42
         try clear c48
         try clear c52
         try clear c52b0
         try clear c52b1
         try clear c53
         try clear c53b0
         try clear c55
         try clear c56
         try clear c63
         try clear p64
         try clear c69
         try clear c73
         try clear hcz49_0
         try clear hcz49_1
         try clear hcz49_2
         try clear hcz57_0
         try clear hcz57_1
         try clear hcz57_2
         try clear hcz60_0
         try clear hcz60_1
         try clear hcz60_2
         try clear hcz62_0
         try clear hcz62_1
         try clear hcz62_2
         try clear hcz64_0
         try clear hcz64_1
         try clear hcz64_2
         try clear hcz67_0
         try clear hcz67_1
         try clear hcz67_2
         try clear hcz70_0
         try clear hcz70_1
         try clear hcz70_2
         try clear hcz74_0
         try clear hcz74_1
         try clear hcz74_2
         try clear hfz49_0
         try clear hfz49_1
         try clear hfz49_2
         try clear hfz57_0
         try clear hfz57_1
         try clear hfz57_2
         try clear hfz60_0
         try clear hfz60_1
         try clear hfz60_2
         try clear hfz62_0
         try clear hfz62_1
         try clear hfz62_2
         try clear hfz64_0
         try clear hfz64_1
         try clear hfz64_2
         try clear hfz67_0
         try clear hfz67_1
         try clear hfz67_2
         try clear hfz70_0
         try clear hfz70_1
         try clear hfz70_2
         try clear hfz74_0
         try clear hfz74_1
         try clear hfz74_2
         try clear hx381_0
         try clear p2
         try clear p381
         try clear q381
         obtain ⟨kq, x73_45, rfl, HA, HJ45, HO_360001, HO_360002, HO_368001, HO_368002, BK359, BK367, HB⟩ := hcut
         cases kq with
         | zero => exact absurd HA.out (by simp [laws_FnMachines.j2])
         | succ kj45 =>
          have H := HA.out
          clear HA
          simp only [laws_FnMachines.j2] at H
          by_cases c77 : x73_45 = true
          ·subst c77
           have H1 : (some false) = some r := by rw [if_pos rfl] at H; exact H
           clear H
           have H := H1
           clear H1
           exact absurd H (by simp [ht_])
          ·replace c77 := Bool.eq_false_iff.mpr c77
           subst c77
           have H1 : ((spec_DrawMovesFrom.f kj45 l0).bind fun bt388 => ((impl_MovesFrom.f kj45 bt388.1 bt388.2.1 bt388.2.2.1 bt388.2.2.2.1 bt388.2.2.2.2).bind fun t398 => (laws_FnMachines.l1 kj45 bt388.2.2.2.1 bt388.2.2.2.2 t398 0 bt388.1 bt388.2.1 bt388.2.2.1))) = some r := by rw [if_neg (show ¬ (false = true) by decide)] at H; exact H
           clear H
           have H := H1
           clear H1
           replace H := Option.bind_eq_some_iff.mp H
           obtain ⟨⟨t388, t389, t392, t395, t396⟩, A780, H⟩ := H
           replace H : ((impl_MovesFrom.f kj45 t388 t389 t392 t395 t396).bind fun t398 => (laws_FnMachines.l1 kj45 t395 t396 t398 0 t388 t389 t392)) = some r := H
           have A78 := Aside0.mk A780
           clear A780
           replace H := Option.bind_eq_some_iff.mp H
           obtain ⟨t398, A790, H⟩ := H
           replace H : (laws_FnMachines.l1 kj45 t395 t396 t398 0 t388 t389 t392) = some r := H
           have A79 := Aside0.mk A790
           clear A790
           have H' := Aside0.mk H
           clear H
           go_wp2_with (first | ((with_reducible refine gate_callee (f := 18) rfl ?_); refine goesL_ (some 76) rfl rfl Try.func18 (by kernel_rfl) rfl #[.slice A0 l0.length c0] rfl zG ?_; (with_reducible refine (spec_DrawMovesFrom.calls kj45 _ _ l0 t388 t389 t392 t395 t396 _ ?side1 ?side2 A78.out).mono ?_); (case side1 => exact cS HR0 HB); (case side2 => exact HC0.out); rintro e w80 ⟨v390, v393, rfl, ho0, ho1, hb⟩; refine ⟨_, rfl, ?_⟩; have n0_ := Aside0.mk (Kd.R_elder' (zR HO_360001) (Kd.R_base ho0) hb); have n1_ := Aside0.mk (Kd.R_elder' (zR HO_360002) (Kd.R_base ho1) hb); have n2_ := Aside0.mk (Kd.R_elder' (zR HO_368001) (Kd.R_base ho0) hb); have n3_ := Aside0.mk (Kd.R_elder' (zR HO_368002) (Kd.R_base ho1) hb); have n4_ := Aside0.mk (Kd.R_lower (Kd.R_new' (Kd.R_new' ho0 (Kd.R_lt (zR HO_360001))) (Kd.R_lt (zR HO_368001))) (below_size (zB HB))); have n5_ := Aside0.mk (Kd.R_lower (Kd.R_new' (Kd.R_new' ho1 (Kd.R_lt (zR HO_360002))) (Kd.R_lt (zR HO_368002))) (below_size (zB HB))); have n6_ := kB BK359 hb; have n7_ := kB BK367 hb; have n8_ := bS HB hb; clear HO_360001; clear HO_360002; clear HO_368001; clear HO_368002; clear BK359; clear BK367; clear HB; have HO_360001 := n0_; have HO_360002 := n1_; have HO_368001 := n2_; have HO_368002 := n3_; have HO391 := n4_; have HO394 := n5_; have BK359 := n6_; have BK367 := n7_; have HB := n8_; clear n0_ n1_ n2_ n3_ n4_ n5_ n6_ n7_ n8_; (try clear hb); (try clear ho0); (try clear ho1)) | ((with_reducible refine gate_dst (N := 9) rfl ?_); refine box_event ?hg (N := 9) ?hd (cs := #[.int .i64 0, .slice none 0 0, .slice none 0 0]) (t := 29) ?hr ?_; (case hd => rfl); (case hg => rfl); (case hr => first | (go_simp; done) | (go_simp; rfl)); intro gb397 hg w81 hbox hb; have n0_ := Aside0.mk (Kd.R_below (zR HO_360001) hb); have n1_ := Aside0.mk (Kd.R_below (zR HO_360002) hb); have n2_ := Aside0.mk (Kd.R_below (zR HO_368001) hb); have n3_ := Aside0.mk (Kd.R_below (zR HO_368002) hb); have n4_ := Aside0.mk (Kd.R_below (zR HO391) hb); have n5_ := Aside0.mk (Kd.R_below (zR HO394) hb); have n6_ := kB BK359 hb; have n7_ := kB BK367 hb; have n8_ := bS HB hb; have n9_ := Aside0.mk (hbox); have n10_ := gS HB hg; have n11_ := gS HB hg; have n12_ := Aside0.mk ((by rw [hg]; exact Nat.ne_of_lt (blk_lt (g := gb359) (o := .cells #[.int .i64 t349, .slice Ao10 t350.length co10, .slice Ao11 t353.length co11] 29 (0, 0)) (zK BK359)) : gb359 ≠ gb397)); have n13_ := Aside0.mk ((by rw [hg]; exact Nat.ne_of_gt (blk_lt (g := gb359) (o := .cells #[.int .i64 t349, .slice Ao10 t350.length co10, .slice Ao11 t353.length co11] 29 (0, 0)) (zK BK359)) : gb397 ≠ gb359)); have n14_ := Aside0.mk ((by rw [hg]; exact Nat.ne_of_lt (blk_lt (g := gb367) (o := .cells #[.int .i64 t360, .slice Ao16 t361.length co16, .slice Ao17 t364.length co17] 29 (0, 0)) (zK BK367)) : gb367 ≠ gb397)); have n15_ := Aside0.mk ((by rw [hg]; exact Nat.ne_of_gt (blk_lt (g := gb367) (o := .cells #[.int .i64 t360, .slice Ao16 t361.length co16, .slice Ao17 t364.length co17] 29 (0, 0)) (zK BK367)) : gb397 ≠ gb367)); clear HO_360001; clear HO_360002; clear HO_368001; clear HO_368002; clear HO391; clear HO394; clear BK359; clear BK367; clear HB; have HO_360001 := n0_; have HO_360002 := n1_; have HO_368001 := n2_; have HO_368002 := n3_; have HO391 := n4_; have HO394 := n5_; have BK359 := n6_; have BK367 := n7_; have HB := n8_; have BK397 := n9_; have GW397 := n10_; have GE397 := n11_; have NB359_397 := n12_; have NB397_359 := n13_; have NB367_397 := n14_; have NB397_367 := n15_; clear n0_ n1_ n2_ n3_ n4_ n5_ n6_ n7_ n8_ n9_ n10_ n11_ n12_ n13_ n14_ n15_; clear hb hbox hg; have hnb82 := NB397_359.out; have hnc82 := NB359_397.out; have hnb83 := NB397_367.out; have hnc83 := NB367_397.out; have hcz84_0 := bc0 BK397; have hcz84_1 := bc1 BK397; have hcz84_2 := bc2 BK397; have hfz84_0 := bf BK397 0; have hfz84_1 := bf BK397 1; have hfz84_2 := bf BK397 2; obtain ⟨Ao85, co85, eo85⟩ := Kd.R_slice HO391.out; subst eo85; obtain ⟨Ao86, co86, eo86⟩ := Kd.R_slice HO394.out; subst eo86) | ((with_reducible refine gate_callee (f := 19) rfl ?_); refine goesL_ (some 83) rfl rfl Try.func19 (by kernel_rfl) rfl #[.agg #[.int .i64 t388, .slice Ao85 t389.length co85, .slice Ao86 t392.length co86], .int .i64 t395, .bool t396] rfl zG ?_; (with_reducible refine (impl_MovesFrom.calls kj45 t388 _ _ t389 _ _ t392 t395 t396 t398 _ ?side1 ?side2 ?side3 ?side4 A79.out).mono ?_); (case side1 => refine (Kd.R_reads' (e := 4) (base := w.heap.size) (ok := fun k_ => ((True ∧ some k_ ≠ (.slice Ao10 t350.length co10 : Value).ownBlock) ∧ some k_ ≠ (.slice Ao16 t361.length co16 : Value).ownBlock)) (n := t389.length) (c := co85) ?_).2.2; exact (by (with_reducible repeat (first | apply Kd.R_alloc | apply Kd.R_drewN | apply Kd.R_drew)); exact (Kd.R_mono (Kd.R_far (p := ⟨gb397, 2, none⟩) (Kd.R_far (p := ⟨gb397, 1, none⟩) (Kd.R_far (p := ⟨gb397, 0, none⟩) (Kd.R_types HO391.out BK397.out (by decide)) (fun _ hk => hk.2) (.int .i64 t388)) (fun _ hk => hk.2) (.slice Ao85 t389.length co85)) (fun _ hk => hk.2) (.slice Ao86 t392.length co86)) (fun _ h_ => h_.1)))); (case side2 => exact (Kd.R_reads' HO391.out).2.1); (case side3 => refine (Kd.R_reads' (e := 54) (base := w.heap.size) (ok := fun k_ => ((True ∧ some k_ ≠ (.slice Ao11 t353.length co11 : Value).ownBlock) ∧ some k_ ≠ (.slice Ao17 t364.length co17 : Value).ownBlock)) (n := t392.length) (c := co86) ?_).2.2; exact (by (with_reducible repeat (first | apply Kd.R_alloc | apply Kd.R_drewN | apply Kd.R_drew)); exact (Kd.R_mono (Kd.R_far (p := ⟨gb397, 2, none⟩) (Kd.R_far (p := ⟨gb397, 1, none⟩) (Kd.R_far (p := ⟨gb397, 0, none⟩) (Kd.R_types HO394.out BK397.out (by decide)) (fun _ hk => hk.2) (.int .i64 t388)) (fun _ hk => hk.2) (.slice Ao85 t389.length co85)) (fun _ hk => hk.2) (.slice Ao86 t392.length co86)) (fun _ h_ => h_.1)))); (case side4 => exact (Kd.R_reads' HO394.out).2.1); rintro e w87 ⟨v399, rfl, ho0, hb⟩; refine ⟨_, rfl, ?_⟩; have n0_ := Aside0.mk (Kd.R_below (by (with_reducible repeat (first | apply Kd.R_alloc | apply Kd.R_drewN | apply Kd.R_drew)); exact (Kd.R_mono (Kd.R_far (p := ⟨gb397, 2, none⟩) (Kd.R_far (p := ⟨gb397, 1, none⟩) (Kd.R_far (p := ⟨gb397, 0, none⟩) (Kd.R_types HO_360001.out BK397.out (by decide)) (fun _ hk => hk.2) (.int .i64 t388)) (fun _ hk => hk.2) (.slice Ao85 t389.length co85)) (fun _ hk => hk.2) (.slice Ao86 t392.length co86)) (fun _ h_ => h_.1))) hb); have n1_ := Aside0.mk (Kd.R_below (by (with_reducible repeat (first | apply Kd.R_alloc | apply Kd.R_drewN | apply Kd.R_drew)); exact (Kd.R_mono (Kd.R_far (p := ⟨gb397, 2, none⟩) (Kd.R_far (p := ⟨gb397, 1, none⟩) (Kd.R_far (p := ⟨gb397, 0, none⟩) (Kd.R_types HO_360002.out BK397.out (by decide)) (fun _ hk => hk.2) (.int .i64 t388)) (fun _ hk => hk.2) (.slice Ao85 t389.length co85)) (fun _ hk => hk.2) (.slice Ao86 t392.length co86)) (fun _ h_ => h_.1))) hb); have n2_ := Aside0.mk (Kd.R_below (by (with_reducible repeat (first | apply Kd.R_alloc | apply Kd.R_drewN | apply Kd.R_drew)); exact (Kd.R_mono (Kd.R_far (p := ⟨gb397, 2, none⟩) (Kd.R_far (p := ⟨gb397, 1, none⟩) (Kd.R_far (p := ⟨gb397, 0, none⟩) (Kd.R_types HO_368001.out BK397.out (by decide)) (fun _ hk => hk.2) (.int .i64 t388)) (fun _ hk => hk.2) (.slice Ao85 t389.length co85)) (fun _ hk => hk.2) (.slice Ao86 t392.length co86)) (fun _ h_ => h_.1))) hb); have n3_ := Aside0.mk (Kd.R_below (by (with_reducible repeat (first | apply Kd.R_alloc | apply Kd.R_drewN | apply Kd.R_drew)); exact (Kd.R_mono (Kd.R_far (p := ⟨gb397, 2, none⟩) (Kd.R_far (p := ⟨gb397, 1, none⟩) (Kd.R_far (p := ⟨gb397, 0, none⟩) (Kd.R_types HO_368002.out BK397.out (by decide)) (fun _ hk => hk.2) (.int .i64 t388)) (fun _ hk => hk.2) (.slice Ao85 t389.length co85)) (fun _ hk => hk.2) (.slice Ao86 t392.length co86)) (fun _ h_ => h_.1))) hb); have n4_ := Aside0.mk (Kd.R_below (by (with_reducible repeat (first | apply Kd.R_alloc | apply Kd.R_drewN | apply Kd.R_drew)); exact (Kd.R_mono (Kd.R_far (p := ⟨gb397, 2, none⟩) (Kd.R_far (p := ⟨gb397, 1, none⟩) (Kd.R_far (p := ⟨gb397, 0, none⟩) (Kd.R_types HO391.out BK397.out (by decide)) (fun _ hk => hk.2) (.int .i64 t388)) (fun _ hk => hk.2) (.slice Ao85 t389.length co85)) (fun _ hk => hk.2) (.slice Ao86 t392.length co86)) (fun _ h_ => h_.1))) hb); have n5_ := Aside0.mk (Kd.R_below (by (with_reducible repeat (first | apply Kd.R_alloc | apply Kd.R_drewN | apply Kd.R_drew)); exact (Kd.R_mono (Kd.R_far (p := ⟨gb397, 2, none⟩) (Kd.R_far (p := ⟨gb397, 1, none⟩) (Kd.R_far (p := ⟨gb397, 0, none⟩) (Kd.R_types HO394.out BK397.out (by decide)) (fun _ hk => hk.2) (.int .i64 t388)) (fun _ hk => hk.2) (.slice Ao85 t389.length co85)) (fun _ hk => hk.2) (.slice Ao86 t392.length co86)) (fun _ h_ => h_.1))) hb); have n6_ := Aside0.mk (Kd.R_lower ho0 (below_size (zB HB))); have n7_ := Aside0.mk (blk_below (g := gb359) (o := .cells #[.int .i64 t349, .slice Ao10 t350.length co10, .slice Ao11 t353.length co11] 29 (0, 0)) (by (with_reducible repeat (first | refine blk_drewN ?_ _ | refine blk_drew ?_ | refine blk_alloc ?_ _)); refine blk_far ?_ NB359_397.out _; (with_reducible repeat (first | refine blk_drewN ?_ _ | refine blk_drew ?_ | refine blk_alloc ?_ _)); refine blk_far ?_ NB359_397.out _; (with_reducible repeat (first | refine blk_drewN ?_ _ | refine blk_drew ?_ | refine blk_alloc ?_ _)); refine blk_far ?_ NB359_397.out _; (with_reducible repeat (first | refine blk_drewN ?_ _ | refine blk_drew ?_ | refine blk_alloc ?_ _)); exact BK359.out) hb); have n8_ := Aside0.mk (blk_below (g := gb367) (o := .cells #[.int .i64 t360, .slice Ao16 t361.length co16, .slice Ao17 t364.length co17] 29 (0, 0)) (by (with_reducible repeat (first | refine blk_drewN ?_ _ | refine blk_drew ?_ | refine blk_alloc ?_ _)); refine blk_far ?_ NB367_397.out _; (with_reducible repeat (first | refine blk_drewN ?_ _ | refine blk_drew ?_ | refine blk_alloc ?_ _)); refine blk_far ?_ NB367_397.out _; (with_reducible repeat (first | refine blk_drewN ?_ _ | refine blk_drew ?_ | refine blk_alloc ?_ _)); refine blk_far ?_ NB367_397.out _; (with_reducible repeat (first | refine blk_drewN ?_ _ | refine blk_drew ?_ | refine blk_alloc ?_ _)); exact BK367.out) hb); have n9_ := Aside0.mk (blk_below (g := gb397) (o := .cells #[.int .i64 t388, .slice Ao85 t389.length co85, .slice Ao86 t392.length co86] 29 (0, 0)) (by (with_reducible repeat (first | refine blk_drewN ?_ _ | refine blk_drew ?_ | refine blk_alloc ?_ _)); refine blk_put (cs := #[.int .i64 t388, .slice Ao85 t389.length co85, .slice none 0 0]) ?_ 2 _ rfl; (with_reducible repeat (first | refine blk_drewN ?_ _ | refine blk_drew ?_ | refine blk_alloc ?_ _)); refine blk_put (cs := #[.int .i64 t388, .slice none 0 0, .slice none 0 0]) ?_ 1 _ rfl; (with_reducible repeat (first | refine blk_drewN ?_ _ | refine blk_drew ?_ | refine blk_alloc ?_ _)); refine blk_put (cs := #[.int .i64 0, .slice none 0 0, .slice none 0 0]) ?_ 0 _ rfl; (with_reducible repeat (first | refine blk_drewN ?_ _ | refine blk_drew ?_ | refine blk_alloc ?_ _)); exact BK397.out) hb); have n10_ := bS HB hb; clear HO_360001; clear HO_360002; clear HO_368001; clear HO_368002; clear HO391; clear HO394; clear BK359; clear BK367; clear BK397; clear HB; have HO_360001 := n0_; have HO_360002 := n1_; have HO_368001 := n2_; have HO_368002 := n3_; have HO391 := n4_; have HO394 := n5_; have HO400 := n6_; have BK359 := n7_; have BK367 := n8_; have BK397 := n9_; have HB := n10_; clear n0_ n1_ n2_ n3_ n4_ n5_ n6_ n7_ n8_ n9_ n10_; (try clear hb); (try clear ho0)))
           go_loopg [13] kj45 (fun kq v13 w' => ∃ (x13_4 : Int), v13 = .int .i64 x13_4 ∧ Aside0 (laws_FnMachines.l1 kq t395 t396 t398 x13_4 t388 t389 t392 = some r) ∧ Aside0 (kq ≤ kj45) ∧ Aside0 (Kd.R (Kd.int .i64) 3 w' w.heap.size (fun _ => True) v399 t398) ∧ Aside0 (Kd.R Kd.bool 4 w' w.heap.size (fun k_ => some k_ ≠ ((.slice Ao16 t361.length co16) : Value).ownBlock ∧ some k_ ≠ ((.slice Ao85 t389.length co85) : Value).ownBlock) (.slice Ao10 t350.length co10) t350) ∧ Aside0 (Kd.R k54 54 w' w.heap.size (fun k_ => some k_ ≠ ((.slice Ao17 t364.length co17) : Value).ownBlock ∧ some k_ ≠ ((.slice Ao86 t392.length co86) : Value).ownBlock) (.slice Ao11 t353.length co11) t353) ∧ Aside0 (Kd.R Kd.bool 4 w' w.heap.size (fun k_ => some k_ ≠ ((.slice Ao10 t350.length co10) : Value).ownBlock ∧ some k_ ≠ ((.slice Ao85 t389.length co85) : Value).ownBlock) (.slice Ao16 t361.length co16) t361) ∧ Aside0 (Kd.R k54 54 w' w.heap.size (fun k_ => some k_ ≠ ((.slice Ao11 t353.length co11) : Value).ownBlock ∧ some k_ ≠ ((.slice Ao86 t392.length co86) : Value).ownBlock) (.slice Ao17 t364.length co17) t364) ∧ Aside0 (Kd.R Kd.bool 4 w' w.heap.size (fun k_ => some k_ ≠ ((.slice Ao10 t350.length co10) : Value).ownBlock ∧ some k_ ≠ ((.slice Ao16 t361.length co16) : Value).ownBlock) (.slice Ao85 t389.length co85) t389) ∧ Aside0 (Kd.R k54 54 w' w.heap.size (fun k_ => some k_ ≠ ((.slice Ao11 t353.length co11) : Value).ownBlock ∧ some k_ ≠ ((.slice Ao17 t364.length co17) : Value).ownBlock) (.slice Ao86 t392.length co86) t392) ∧ Aside0 (w'.heap[gb359]? = some (.cells #[.int .i64 t349, (.slice Ao10 t350.length co10), (.slice Ao11 t353.length co11)] 29 (0, 0))) ∧ Aside0 (w'.heap[gb367]? = some (.cells #[.int .i64 t360, (.slice Ao16 t361.length co16), (.slice Ao17 t364.length co17)] 29 (0, 0))) ∧ Aside0 (w'.heap[gb397]? = some (.cells #[.int .i64 t388, (.slice Ao85 t389.length co85), (.slice Ao86 t392.length co86)] 29 (0, 0))) ∧ Aside0 (Below w.heap.size w w'))
           case atStart => exact ⟨(0), zF, H', ⟨Nat.le_refl _⟩, ⟨zR HO400⟩, ⟨zR HO_360001⟩, ⟨zR HO_360002⟩, ⟨zR HO_368001⟩, ⟨zR HO_368002⟩, ⟨by (with_reducible repeat (first | apply Kd.R_alloc | apply Kd.R_drewN | apply Kd.R_drew)); exact Kd.R_mono HO391.out (fun _ hk => ⟨hk.1.2, hk.2⟩)⟩, ⟨by (with_reducible repeat (first | apply Kd.R_alloc | apply Kd.R_drewN | apply Kd.R_drew)); exact Kd.R_mono HO394.out (fun _ hk => ⟨hk.1.2, hk.2⟩)⟩, ⟨zK BK359⟩, ⟨zK BK367⟩, ⟨zK BK397⟩, ⟨zB HB⟩⟩
           case round =>
            clear H'
            try clear c1
            try clear c2
            try clear p2
            try clear c3
            try clear p3
            try clear q3
            try clear hx3
            try clear c4
            try clear c5
            try clear c6
            try clear p6
            try clear c7
            try clear c8
            try clear c9
            try clear c15
            try clear c16
            try clear c17
            try clear c18
            try clear c19
            try clear c20
            try clear c37
            try clear p38
            try clear q38
            try clear hx38
            try clear c40
            try clear c40b0
            try clear c41
            try clear c41b0
            try clear c42
            try clear c48
            try clear c52
            try clear c52b0
            try clear c52b1
            try clear c53
            try clear c53b0
            try clear c55
            try clear c56
            try clear c63
            try clear p64
            try clear c69
            try clear c73
            try clear c77
            try clear c82
            try clear c83
            try clear hcz49_0
            try clear hcz49_1
            try clear hcz49_2
            try clear hcz57_0
            try clear hcz57_1
            try clear hcz57_2
            try clear hcz60_0
            try clear hcz60_1
            try clear hcz60_2
            try clear hcz62_0
            try clear hcz62_1
            try clear hcz62_2
            try clear hcz64_0
            try clear hcz64_1
            try clear hcz64_2
            try clear hcz67_0
            try clear hcz67_1
            try clear hcz67_2
            try clear hcz70_0
            try clear hcz70_1
            try clear hcz70_2
            try clear hcz74_0
            try clear hcz74_1
            try clear hcz74_2
            try clear hcz84_0
            try clear hcz84_1
            try clear hcz84_2
            try clear hfz49_0
            try clear hfz49_1
            try clear hfz49_2
            try clear hfz57_0
            try clear hfz57_1
            try clear hfz57_2
            try clear hfz60_0
            try clear hfz60_1
            try clear hfz60_2
            try clear hfz62_0
            try clear hfz62_1
            try clear hfz62_2
            try clear hfz64_0
            try clear hfz64_1
            try clear hfz64_2
            try clear hfz67_0
            try clear hfz67_1
            try clear hfz67_2
            try clear hfz70_0
            try clear hfz70_1
            try clear hfz70_2
            try clear hfz74_0
            try clear hfz74_1
            try clear hfz74_2
            try clear hfz84_0
            try clear hfz84_1
            try clear hfz84_2
            try clear hx381_0
            try clear p2
            try clear p3
            try clear p38
            try clear p381
            try clear p6
            try clear p64
            try clear q3
            try clear q38
            try clear q381
            obtain ⟨x13_4, rfl, HA, HK4, HO_12, HO_360001, HO_360002, HO_368001, HO_368002, HO_398001, HO_398002, BK359, BK367, BK397, HB⟩ := hrel
            cases gk with
            | zero => exact absurd HA.out (by simp [laws_FnMachines.l1])
            | succ k4 =>
             have H := HA.out
             clear HA
             simp only [laws_FnMachines.l1] at H
             by_cases c88 : x13_4 < (t398.length : Int)
             ·rw [if_pos c88] at H
              have c88b0 : decide (x13_4 < (t398.length : Int)) = true := decide_eq_true c88
              clear c88
              by_cases c89 : 0 ≤ x13_4
              ·rw [if_pos c89] at H
               have c89b0 : decide (0 ≤ x13_4) = true := decide_eq_true c89
               clear c89
               replace H := Option.bind_eq_some_iff.mp H
               obtain ⟨t402, A900, H⟩ := H
               replace H : (if t402 < 0 then (some false) else (if x13_4 > 0 then (if 0 ≤ (wrap64 (x13_4 - 1)) then (if (wrap64 (x13_4 - 1)) < (t398.length : Int) then (if (rd t398 (wrap64 (x13_4 - 1))) ≥ (rd t398 x13_4) then (some false) else (laws_FnMachines.l1 k4 t395 t396 t398 (wrap64 (x13_4 + 1)) t388 t389 t392)) else (none)) else (none)) else (laws_FnMachines.l1 k4 t395 t396 t398 (wrap64 (x13_4 + 1)) t388 t389 t392))) = some r := H
               have A90 := Aside0.mk A900
               clear A900
               by_cases c91 : t402 < 0
               ·rw [if_pos c91] at H
                have c91b0 : decide (t402 < 0) = true := decide_eq_true c91
                clear c91
                exact absurd H (by simp [ht_])
               ·rw [if_neg c91] at H
                have c91b0 : decide (t402 < 0) = false := decide_eq_false c91
                clear c91
                by_cases c92 : x13_4 > 0
                ·rw [if_pos c92] at H
                 have c92b0 : decide (0 < x13_4) = true := decide_eq_true c92
                 clear c92
                 obtain ⟨ji93, hji93⟩ : ∃ j_ : Int, (wrap64 (x13_4 - 1)) = j_ := ⟨_, rfl⟩
                 replace H : (if 0 ≤ (ji93) then (if (ji93) < (t398.length : Int) then (if (rd t398 (ji93)) ≥ (rd t398 x13_4) then (some false) else (laws_FnMachines.l1 k4 t395 t396 t398 (wrap64 (x13_4 + 1)) t388 t389 t392)) else (none)) else (none)) = some r := by first | (rw [hji93] at H; exact H) | (simp only [hji93] at H ⊢; exact H)
                 (try rw [hji93] at A90)
                 have hji93w : (IntKind.i64.wrap (x13_4 - 1)) = ji93 := (i64_w _).trans hji93
                 by_cases c94 : 0 ≤ (ji93)
                 ·rw [if_pos c94] at H
                  have c94b0 : decide (0 ≤ (ji93)) = true := decide_eq_true c94
                  clear c94
                  by_cases c95 : (ji93) < (t398.length : Int)
                  ·rw [if_pos c95] at H
                   have c95b0 : decide ((ji93) < (t398.length : Int)) = true := decide_eq_true c95
                   clear c95
                   by_cases c96 : (rd t398 (ji93)) ≥ (rd t398 x13_4)
                   ·rw [if_pos c96] at H
                    have c96b0 : decide ((rd t398 x13_4) ≤ (rd t398 (ji93))) = true := decide_eq_true c96
                    clear c96
                    exact absurd H (by simp [ht_])
                   ·rw [if_neg c96] at H
                    have c96b0 : decide ((rd t398 x13_4) ≤ (rd t398 (ji93))) = false := decide_eq_false c96
                    clear c96
                    have H' := Aside0.mk H
                    clear H
                    obtain ⟨Ao97, co97, eo97⟩ := Kd.R_slice HO_12.out
                    subst eo97
                    try go_wp2
                    have n0_ := Aside0.mk (Kd.R_drew HO_12.out)
                    have n1_ := Aside0.mk (Kd.R_drew HO_360001.out)
                    have n2_ := Aside0.mk (Kd.R_drew HO_360002.out)
                    have n3_ := Aside0.mk (Kd.R_drew HO_368001.out)
                    have n4_ := Aside0.mk (Kd.R_drew HO_368002.out)
                    have n5_ := Aside0.mk (Kd.R_drew HO_398001.out)
                    have n6_ := Aside0.mk (Kd.R_drew HO_398002.out)
                    have n7_ := Aside0.mk (blk_drew BK359.out)
                    have n8_ := Aside0.mk (blk_drew BK367.out)
                    have n9_ := Aside0.mk (blk_drew BK397.out)
                    have n10_ := Aside0.mk (below_drew1 HB.out)
                    clear HO_12
                    clear HO_360001
                    clear HO_360002
                    clear HO_368001
                    clear HO_368002
                    clear HO_398001
                    clear HO_398002
                    clear BK359
                    clear BK367
                    clear BK397
                    clear HB
                    have HO_12 := n0_
                    have HO_360001 := n1_
                    have HO_360002 := n2_
                    have HO_368001 := n3_
                    have HO_368002 := n4_
                    have HO_398001 := n5_
                    have HO_398002 := n6_
                    have BK359 := n7_
                    have BK367 := n8_
                    have BK397 := n9_
                    have HB := n10_
                    clear n0_ n1_ n2_ n3_ n4_ n5_ n6_ n7_ n8_ n9_ n10_
                    have p401 : 0 ≤ (x13_4 : Int) := of_decide_eq_true (by first | (with_reducible assumption) | assumption)
                    have q401 : x13_4 < (t398.length : Int) := of_decide_eq_true (by first | (with_reducible assumption) | assumption)
                    obtain ⟨ad401, e401, hx401_0⟩ := Kd.at_int (Kd.R_reads' HO_12.out).2.2 x13_4 p401 q401
                    cases e401
                    replace p401 := eq_true p401
                    replace q401 := eq_true q401
                    have p403 : 0 ≤ ((ji93) : Int) := of_decide_eq_true (by first | (with_reducible assumption) | assumption)
                    have q403 : (ji93) < (t398.length : Int) := of_decide_eq_true (by first | (with_reducible assumption) | assumption)
                    obtain ⟨ad403, e403, hx403_0⟩ := Kd.at_int (Kd.R_reads' HO_12.out).2.2 (ji93) p403 q403
                    obtain rfl : ad401 = ad403 := (by injection e403)
                    replace p403 := eq_true p403
                    replace q403 := eq_true q403
                    have p404 : 0 ≤ (x13_4 : Int) := of_decide_eq_true (by first | (with_reducible assumption) | assumption)
                    have q404 : x13_4 < (t398.length : Int) := of_decide_eq_true (by first | (with_reducible assumption) | assumption)
                    obtain ⟨ad404, e404, hx404_0⟩ := Kd.at_int (Kd.R_reads' HO_12.out).2.2 x13_4 p404 q404
                    obtain rfl : ad401 = ad404 := (by injection e404)
                    replace p404 := eq_true p404
                    replace q404 := eq_true q404
                    refine start_ (n := 25) (S := fun w' => w'.cell? ⟨gb397, 0, none⟩ = some (.int .i64 t388) ∧ w'.cell? ⟨gb397, 1, none⟩ = some (.slice Ao85 t389.length co85) ∧ w'.cell? ⟨gb397, 2, none⟩ = some (.slice Ao86 t392.length co86) ∧ w'.cell? (ad401.add (x13_4).toNat) = some (.int .i64 (rd t398 x13_4)) ∧ w'.cell? (ad401.add ((ji93)).toNat) = some (.int .i64 (rd t398 (ji93))) ∧ w'.cell? (ad401.add (x13_4).toNat) = some (.int .i64 (rd t398 x13_4))) (ds := []) (bm 25 0) (by kernel_rfl) rfl (bm0 _) ⟨bc0 BK397, bc1 BK397, bc2 BK397, hx401_0, hx403_0, hx404_0⟩ (fun hHeld => ?_); refine with_tabW laws_FnMachines.tab20 laws_FnMachines.bits20 (fun HT_ HW_ => ?_)
                    generalize wr.drew = w98 at HO_12 HO_360001 HO_360002 HO_368001 HO_368002 HO_398001 HO_398002 BK359 BK367 BK397 HB hx401_0 hx403_0 hx404_0 hHeld ⊢
                    refine pure_ (i := 1) (N := some 91) (v := ?_) (a' := ?_) (bm 25 2) rfl rfl (any_of HT_.out (by kernel_rfl)) (fun _ _ _ h => h) (Or.inl ⟨by rfl, ?_⟩) ?_ ?_
                    rotate_left
                    ·intro w'
                     go_simp
                     with_reducible rfl
                    rotate_left
                    ·simp only [Act.put, List.setIfInBounds_toArray, List.set_cons_zero, List.set_cons_succ, i64_w, i32_w]
                     rfl
                    refine pure_ (i := 2) (N := some 92) (v := ?_) (a' := ?_) (bm 25 6) rfl rfl (any_of HT_.out (by kernel_rfl)) (fun _ _ _ h => h) (Or.inl ⟨by rfl, ?_⟩) ?_ ?_
                    rotate_left
                    ·intro w'
                     go_simp
                     with_reducible rfl
                    rotate_left
                    ·simp only [Act.put, List.setIfInBounds_toArray, List.set_cons_zero, List.set_cons_succ, i64_w, i32_w]
                     rfl
                    refine pure_ (i := 3) (N := some 93) (v := ?_) (a' := ?_) (bm 25 14) rfl rfl (any_of HT_.out (by kernel_rfl)) (fun _ _ _ h => h) (Or.inl ⟨by rfl, ?_⟩) ?_ ?_
                    rotate_left
                    ·intro w'
                     go_simp
                     with_reducible rfl
                    rotate_left
                    ·simp only [Act.put, List.setIfInBounds_toArray, List.set_cons_zero, List.set_cons_succ, i64_w, i32_w]
                     rfl
                    refine pure_ (i := 4) (N := some 94) (v := ?_) (a' := ?_) (bm 25 30) rfl rfl (any_of HT_.out (by kernel_rfl)) (fun _ _ _ h => h) (Or.inl ⟨by rfl, ?_⟩) ?_ ?_
                    rotate_left
                    ·intro w'
                     go_simp
                     with_reducible rfl
                    rotate_left
                    ·simp only [Act.put, List.setIfInBounds_toArray, List.set_cons_zero, List.set_cons_succ, i64_w, i32_w]
                     rfl
                    refine pure_ (i := 5) (N := some 95) (v := ?_) (a' := ?_) (bm 25 62) rfl rfl (any_of HT_.out (by kernel_rfl)) (fun _ _ _ h => h) (Or.inl ⟨by rfl, ?_⟩) ?_ ?_
                    rotate_left
                    ·intro w'
                     go_simp
                     with_reducible rfl
                    rotate_left
                    ·simp only [Act.put, List.setIfInBounds_toArray, List.set_cons_zero, List.set_cons_succ, i64_w, i32_w]
                     rfl
                    refine take_ (i := 0) (N := some 90) (v := ?_) (a' := ?_) (bm 25 63) rfl rfl (take_ofW HT_.out HW_.out (by kernel_rfl)) (fun _ _ _ h => h) (Or.inl ⟨by rfl, ?_⟩) hHeld ?_ ?_
                    rotate_left
                    ·rintro w' ⟨s0, s1, s2, s3, s4, s5⟩
                     go_simp
                     with_reducible rfl
                    rotate_left
                    ·simp only [Act.put, List.setIfInBounds_toArray, List.set_cons_zero, List.set_cons_succ, i64_w, i32_w]
                     rfl
                    refine take_ (i := 6) (N := some 96) (v := ?_) (a' := ?_) (bm 25 127) rfl rfl (take_ofW HT_.out HW_.out (by kernel_rfl)) (fun _ _ _ h => h) (Or.inl ⟨by rfl, ?_⟩) hHeld ?_ ?_
                    rotate_left
                    ·rintro w' ⟨s0, s1, s2, s3, s4, s5⟩
                     go_simp
                     with_reducible rfl
                    rotate_left
                    ·simp only [Act.put, List.setIfInBounds_toArray, List.set_cons_zero, List.set_cons_succ, i64_w, i32_w]
                     rfl
                    refine one_ (i := 7) (N := some 97) (bm 25 255) rfl rfl (one_of HT_.out (by kernel_rfl)) (by decide) (fun K hK => ?_)
                    refine goes_ Try.func20 (by kernel_rfl) rfl #[.agg #[.int .i64 t388, .slice Ao85 t389.length co85, .slice Ao86 t392.length co86], .int .i64 t395, .bool t396, .int .i64 (rd t398 x13_4)] (by rfl) rfl rfl zG ?_
                    with_reducible refine (impl_MoveOf.calls t388 _ _ t389 _ _ t392 t395 t396 (rd t398 x13_4) t402 _ ?side1 ?side2 ?side3 ?side4 A90.out).mono ?_
                    (case side1 => repeat (first | exact (Kd.R_reads' HO_398001.out).2.2 | (with_reducible refine Kd.C_alloc ?_ _) | (with_reducible refine Kd.C_drewN ?_ _) | (with_reducible refine Kd.C_drew ?_)))
                    (case side2 => exact (Kd.R_reads' HO_398001.out).2.1)
                    (case side3 => repeat (first | exact (Kd.R_reads' HO_398002.out).2.2 | (with_reducible refine Kd.C_alloc ?_ _) | (with_reducible refine Kd.C_drewN ?_ _) | (with_reducible refine Kd.C_drew ?_)))
                    (case side4 => exact (Kd.R_reads' HO_398002.out).2.1)
                    rintro e w99 ⟨rfl, hb⟩
                    have HS3_ := (hb.cell (World.block_lt_of_cell? _ _ (hHeld.2.2.2.1))).trans (hHeld.2.2.2.1)
                    have HS4_ := (hb.cell (World.block_lt_of_cell? _ _ (hHeld.2.2.2.2.1))).trans (hHeld.2.2.2.2.1)
                    have HS5_ := (hb.cell (World.block_lt_of_cell? _ _ (hHeld.2.2.2.2.2))).trans (hHeld.2.2.2.2.2)
                    refine ⟨_, rfl, ?_⟩
                    have n0_ := Aside0.mk (Kd.R_below (zR HO_12) hb)
                    have n1_ := Aside0.mk (Kd.R_below (zR HO_360001) hb)
                    have n2_ := Aside0.mk (Kd.R_below (zR HO_360002) hb)
                    have n3_ := Aside0.mk (Kd.R_below (zR HO_368001) hb)
                    have n4_ := Aside0.mk (Kd.R_below (zR HO_368002) hb)
                    have n5_ := Aside0.mk (Kd.R_below (zR HO_398001) hb)
                    have n6_ := Aside0.mk (Kd.R_below (zR HO_398002) hb)
                    have n7_ := kB BK359 hb
                    have n8_ := kB BK367 hb
                    have n9_ := kB BK397 hb
                    have n10_ := bS HB hb
                    clear HO_12
                    clear HO_360001
                    clear HO_360002
                    clear HO_368001
                    clear HO_368002
                    clear HO_398001
                    clear HO_398002
                    clear BK359
                    clear BK367
                    clear BK397
                    clear HB
                    have HO_12 := n0_
                    have HO_360001 := n1_
                    have HO_360002 := n2_
                    have HO_368001 := n3_
                    have HO_368002 := n4_
                    have HO_398001 := n5_
                    have HO_398002 := n6_
                    have BK359 := n7_
                    have BK367 := n8_
                    have BK397 := n9_
                    have HB := n10_
                    clear n0_ n1_ n2_ n3_ n4_ n5_ n6_ n7_ n8_ n9_ n10_
                    (try clear hb)
                    (try clear hb2)
                    (try clear hk)
                    (try clear hi)
                    refine hK.out _ _ ⟨bc0 BK397, bc1 BK397, bc2 BK397, HS3_, HS4_, HS5_⟩ (fun hHeld => ?_)
                    clear hK K
                    refine norm_ (a' := ?_) ?_ ?_
                    rotate_left
                    ·show Act.put _ (some 97) _ = _
                     simp only [Act.put, List.setIfInBounds_toArray, List.set_cons_zero, List.set_cons_succ, i64_w, i32_w]
                     rfl
                    refine pure_ (i := 8) (N := some 98) (v := ?_) (a' := ?_) (bm 25 511) rfl rfl (any_of HT_.out (by kernel_rfl)) (fun _ _ _ h => h) (Or.inl ⟨by rfl, ?_⟩) ?_ ?_
                    rotate_left
                    ·intro w'
                     go_simp
                     with_reducible rfl
                    rotate_left
                    ·simp only [Act.put, List.setIfInBounds_toArray, List.set_cons_zero, List.set_cons_succ, i64_w, i32_w]
                     rfl
                    refine pure_ (i := 9) (N := some 99) (v := ?_) (a' := ?_) (bm 25 1023) rfl rfl (any_of HT_.out (by kernel_rfl)) (fun _ _ _ h => h) (Or.inl ⟨by rfl, ?_⟩) ?_ ?_
                    rotate_left
                    ·intro w'
                     go_simp
                     with_reducible rfl
                    rotate_left
                    ·simp only [Act.put, List.setIfInBounds_toArray, List.set_cons_zero, List.set_cons_succ, i64_w, i32_w]
                     rfl
                    refine pure_ (i := 10) (N := some 100) (v := ?_) (a' := ?_) (bm 25 2047) rfl rfl (any_of HT_.out (by kernel_rfl)) (fun _ _ _ h => h) (Or.inl ⟨by rfl, ?_⟩) ?_ ?_
                    rotate_left
                    ·intro w'
                     go_simp
                     with_reducible rfl
                    rotate_left
                    ·simp only [Act.put, List.setIfInBounds_toArray, List.set_cons_zero, List.set_cons_succ, i64_w, i32_w]
                     rfl
                    refine pure_ (i := 11) (N := some 101) (v := ?_) (a' := ?_) (bm 25 4095) rfl rfl (any_of HT_.out (by kernel_rfl)) (fun _ _ _ h => h) (Or.inl ⟨by rfl, ?_⟩) ?_ ?_
                    rotate_left
                    ·intro w'
                     go_simp
                     with_reducible rfl
                    rotate_left
                    ·simp only [Act.put, List.setIfInBounds_toArray, List.set_cons_zero, List.set_cons_succ, i64_w, i32_w]
                     rfl
                    refine pure_ (i := 12) (N := some 102) (v := ?_) (a' := ?_) (bm 25 8191) rfl rfl (any_of HT_.out (by kernel_rfl)) (fun _ _ _ h => h) (Or.inl ⟨by rfl, ?_⟩) ?_ ?_
                    rotate_left
                    ·intro w'
                     go_simp
                     with_reducible rfl
                    rotate_left
                    ·simp only [Act.put, List.setIfInBounds_toArray, List.set_cons_zero, List.set_cons_succ, i64_w, i32_w]
                     rfl
                    refine pure_ (i := 13) (N := some 103) (v := ?_) (a' := ?_) (bm 25 16383) rfl rfl (any_of HT_.out (by kernel_rfl)) (fun _ _ _ h => h) (Or.inl ⟨by rfl, ?_⟩) ?_ ?_
                    rotate_left
                    ·intro w'
                     go_simp
                     with_reducible rfl
                    rotate_left
                    ·simp only [Act.put, List.setIfInBounds_toArray, List.set_cons_zero, List.set_cons_succ, i64_w, i32_w]
                     rfl
                    refine pure_ (i := 14) (N := some 104) (v := ?_) (a' := ?_) (bm 25 32767) rfl rfl (any_of HT_.out (by kernel_rfl)) (fun _ _ _ h => h) (Or.inl ⟨by rfl, ?_⟩) ?_ ?_
                    rotate_left
                    ·intro w'
                     go_simp
                     with_reducible rfl
                    rotate_left
                    ·simp only [Act.put, List.setIfInBounds_toArray, List.set_cons_zero, List.set_cons_succ, i64_w, i32_w]
                     rfl
                    refine pure_ (i := 15) (N := some 105) (v := ?_) (a' := ?_) (bm 25 65535) rfl rfl (any_of HT_.out (by kernel_rfl)) (fun _ _ _ h => h) (Or.inl ⟨by rfl, ?_⟩) ?_ ?_
                    rotate_left
                    ·intro w'
                     go_simp
                     with_reducible rfl
                    rotate_left
                    ·simp only [Act.put, List.setIfInBounds_toArray, List.set_cons_zero, List.set_cons_succ, i64_w, i32_w]
                     rfl
                    refine pure_ (i := 16) (N := some 106) (v := ?_) (a' := ?_) (bm 25 131071) rfl rfl (any_of HT_.out (by kernel_rfl)) (fun _ _ _ h => h) (Or.inl ⟨by rfl, ?_⟩) ?_ ?_
                    rotate_left
                    ·intro w'
                     go_simp
                     with_reducible rfl
                    rotate_left
                    ·simp only [Act.put, List.setIfInBounds_toArray, List.set_cons_zero, List.set_cons_succ, i64_w, i32_w]
                     rfl
                    refine pure_ (i := 18) (N := some 108) (v := ?_) (a' := ?_) (bm 25 393215) rfl rfl (any_of HT_.out (by kernel_rfl)) (fun _ _ _ h => h) (Or.inl ⟨by rfl, ?_⟩) ?_ ?_
                    rotate_left
                    ·intro w'
                     go_simp
                     with_reducible rfl
                    rotate_left
                    ·simp only [Act.put, List.setIfInBounds_toArray, List.set_cons_zero, List.set_cons_succ, i64_w, i32_w]
                     rfl
                    refine pure_ (i := 19) (N := some 109) (v := ?_) (a' := ?_) (bm 25 917503) rfl rfl (any_of HT_.out (by kernel_rfl)) (fun _ _ _ h => h) (Or.inl ⟨by rfl, ?_⟩) ?_ ?_
                    rotate_left
                    ·intro w'
                     go_simp
                     with_reducible rfl
                    rotate_left
                    ·simp only [Act.put, List.setIfInBounds_toArray, List.set_cons_zero, List.set_cons_succ, i64_w, i32_w]
                     rfl
                    refine pure_ (i := 20) (N := some 110) (v := ?_) (a' := ?_) (bm 25 1966079) rfl rfl (any_of HT_.out (by kernel_rfl)) (fun _ _ _ h => h) (Or.inl ⟨by rfl, ?_⟩) ?_ ?_
                    rotate_left
                    ·intro w'
                     go_simp
                     with_reducible rfl
                    rotate_left
                    ·simp only [Act.put, List.setIfInBounds_toArray, List.set_cons_zero, List.set_cons_succ, i64_w, i32_w]
                     rfl
                    refine take_ (i := 17) (N := some 107) (v := ?_) (a' := ?_) (bm 25 2097151) rfl rfl (take_ofW HT_.out HW_.out (by kernel_rfl)) (fun _ _ _ h => h) (Or.inl ⟨by rfl, ?_⟩) hHeld ?_ ?_
                    rotate_left
                    ·rintro w' ⟨s0, s1, s2, s3, s4, s5⟩
                     go_simp
                     with_reducible rfl
                    rotate_left
                    ·simp only [Act.put, List.setIfInBounds_toArray, List.set_cons_zero, List.set_cons_succ, i64_w, i32_w]
                     rfl
                    refine take_ (i := 21) (N := some 111) (v := ?_) (a' := ?_) (bm 25 4194303) rfl rfl (take_ofW HT_.out HW_.out (by kernel_rfl)) (fun _ _ _ h => h) (Or.inl ⟨by rfl, ?_⟩) hHeld ?_ ?_
                    rotate_left
                    ·rintro w' ⟨s0, s1, s2, s3, s4, s5⟩
                     go_simp
                     with_reducible rfl
                    rotate_left
                    ·simp only [Act.put, List.setIfInBounds_toArray, List.set_cons_zero, List.set_cons_succ, i64_w, i32_w]
                     rfl
                    refine pure_ (i := 22) (N := some 112) (v := ?_) (a' := ?_) (bm 25 8388607) rfl rfl (any_of HT_.out (by kernel_rfl)) (fun _ _ _ h => h) (Or.inl ⟨by rfl, ?_⟩) ?_ ?_
                    rotate_left
                    ·intro w'
                     go_simp
                     with_reducible rfl
                    rotate_left
                    ·simp only [Act.put, List.setIfInBounds_toArray, List.set_cons_zero, List.set_cons_succ, i64_w, i32_w]
                     rfl
                    refine pure_ (i := 23) (N := some 113) (v := ?_) (a' := ?_) (bm 25 16777215) rfl rfl (any_of HT_.out (by kernel_rfl)) (fun _ _ _ h => h) (Or.inl ⟨by rfl, ?_⟩) ?_ ?_
                    rotate_left
                    ·intro w'
                     go_simp
                     with_reducible rfl
                    rotate_left
                    ·simp only [Act.put, List.setIfInBounds_toArray, List.set_cons_zero, List.set_cons_succ, i64_w, i32_w]
                     rfl
                    refine pure_ (i := 24) (N := some 114) (v := ?_) (a' := ?_) (bm 25 33554431) rfl rfl (any_of HT_.out (by kernel_rfl)) (fun _ _ _ h => h) (Or.inl ⟨by rfl, ?_⟩) ?_ ?_
                    rotate_left
                    ·intro w'
                     go_simp
                     with_reducible rfl
                    rotate_left
                    ·simp only [Act.put, List.setIfInBounds_toArray, List.set_cons_zero, List.set_cons_succ, i64_w, i32_w]
                     rfl
                    refine done_ (done_of HT_.out (by kernel_rfl)) ?_
                    try clear hHeld
                    try go_wp2
                    go_roundg k4
                    case measure => have := HJ5.out; have := HK2.out; have := HJ45.out; have := HK4.out; omega
                    case rel => exact ⟨(wrap64 (x13_4 + 1)), zF, H', ⟨by have := HJ5.out; have := HK2.out; have := HJ45.out; have := HK4.out; omega⟩, ⟨zR HO_12⟩, ⟨zR HO_360001⟩, ⟨zR HO_360002⟩, ⟨zR HO_368001⟩, ⟨zR HO_368002⟩, ⟨zR HO_398001⟩, ⟨zR HO_398002⟩, ⟨zK BK359⟩, ⟨zK BK367⟩, ⟨zK BK397⟩, ⟨zB HB⟩⟩
                  ·rw [if_neg c95] at H
                   exact absurd H (by simp)
                 ·rw [if_neg c94] at H
                  exact absurd H (by simp)
                ·rw [if_neg c92] at H
                 have c92b0 : decide (0 < x13_4) = false := decide_eq_false c92
                 clear c92
                 have H' := Aside0.mk H
                 clear H
                 obtain ⟨Ao100, co100, eo100⟩ := Kd.R_slice HO_12.out
                 subst eo100
                 try go_wp2
                 have n0_ := Aside0.mk (Kd.R_drew HO_12.out)
                 have n1_ := Aside0.mk (Kd.R_drew HO_360001.out)
                 have n2_ := Aside0.mk (Kd.R_drew HO_360002.out)
                 have n3_ := Aside0.mk (Kd.R_drew HO_368001.out)
                 have n4_ := Aside0.mk (Kd.R_drew HO_368002.out)
                 have n5_ := Aside0.mk (Kd.R_drew HO_398001.out)
                 have n6_ := Aside0.mk (Kd.R_drew HO_398002.out)
                 have n7_ := Aside0.mk (blk_drew BK359.out)
                 have n8_ := Aside0.mk (blk_drew BK367.out)
                 have n9_ := Aside0.mk (blk_drew BK397.out)
                 have n10_ := Aside0.mk (below_drew1 HB.out)
                 clear HO_12
                 clear HO_360001
                 clear HO_360002
                 clear HO_368001
                 clear HO_368002
                 clear HO_398001
                 clear HO_398002
                 clear BK359
                 clear BK367
                 clear BK397
                 clear HB
                 have HO_12 := n0_
                 have HO_360001 := n1_
                 have HO_360002 := n2_
                 have HO_368001 := n3_
                 have HO_368002 := n4_
                 have HO_398001 := n5_
                 have HO_398002 := n6_
                 have BK359 := n7_
                 have BK367 := n8_
                 have BK397 := n9_
                 have HB := n10_
                 clear n0_ n1_ n2_ n3_ n4_ n5_ n6_ n7_ n8_ n9_ n10_
                 have p401 : 0 ≤ (x13_4 : Int) := of_decide_eq_true (by first | (with_reducible assumption) | assumption)
                 have q401 : x13_4 < (t398.length : Int) := of_decide_eq_true (by first | (with_reducible assumption) | assumption)
                 obtain ⟨ad401, e401, hx401_0⟩ := Kd.at_int (Kd.R_reads' HO_12.out).2.2 x13_4 p401 q401
                 cases e401
                 replace p401 := eq_true p401
                 replace q401 := eq_true q401
                 refine start_ (n := 25) (S := fun w' => w'.cell? ⟨gb397, 0, none⟩ = some (.int .i64 t388) ∧ w'.cell? ⟨gb397, 1, none⟩ = some (.slice Ao85 t389.length co85) ∧ w'.cell? ⟨gb397, 2, none⟩ = some (.slice Ao86 t392.length co86) ∧ w'.cell? (ad401.add (x13_4).toNat) = some (.int .i64 (rd t398 x13_4))) (ds := []) (bm 25 0) (by kernel_rfl) rfl (bm0 _) ⟨bc0 BK397, bc1 BK397, bc2 BK397, hx401_0⟩ (fun hHeld => ?_); refine with_tabW laws_FnMachines.tab20 laws_FnMachines.bits20 (fun HT_ HW_ => ?_)
                 generalize wr.drew = w101 at HO_12 HO_360001 HO_360002 HO_368001 HO_368002 HO_398001 HO_398002 BK359 BK367 BK397 HB hx401_0 hHeld ⊢
                 refine pure_ (i := 1) (N := some 91) (v := ?_) (a' := ?_) (bm 25 2) rfl rfl (any_of HT_.out (by kernel_rfl)) (fun _ _ _ h => h) (Or.inl ⟨by rfl, ?_⟩) ?_ ?_
                 rotate_left
                 ·intro w'
                  go_simp
                  with_reducible rfl
                 rotate_left
                 ·simp only [Act.put, List.setIfInBounds_toArray, List.set_cons_zero, List.set_cons_succ, i64_w, i32_w]
                  rfl
                 refine pure_ (i := 2) (N := some 92) (v := ?_) (a' := ?_) (bm 25 6) rfl rfl (any_of HT_.out (by kernel_rfl)) (fun _ _ _ h => h) (Or.inl ⟨by rfl, ?_⟩) ?_ ?_
                 rotate_left
                 ·intro w'
                  go_simp
                  with_reducible rfl
                 rotate_left
                 ·simp only [Act.put, List.setIfInBounds_toArray, List.set_cons_zero, List.set_cons_succ, i64_w, i32_w]
                  rfl
                 refine pure_ (i := 3) (N := some 93) (v := ?_) (a' := ?_) (bm 25 14) rfl rfl (any_of HT_.out (by kernel_rfl)) (fun _ _ _ h => h) (Or.inl ⟨by rfl, ?_⟩) ?_ ?_
                 rotate_left
                 ·intro w'
                  go_simp
                  with_reducible rfl
                 rotate_left
                 ·simp only [Act.put, List.setIfInBounds_toArray, List.set_cons_zero, List.set_cons_succ, i64_w, i32_w]
                  rfl
                 refine pure_ (i := 4) (N := some 94) (v := ?_) (a' := ?_) (bm 25 30) rfl rfl (any_of HT_.out (by kernel_rfl)) (fun _ _ _ h => h) (Or.inl ⟨by rfl, ?_⟩) ?_ ?_
                 rotate_left
                 ·intro w'
                  go_simp
                  with_reducible rfl
                 rotate_left
                 ·simp only [Act.put, List.setIfInBounds_toArray, List.set_cons_zero, List.set_cons_succ, i64_w, i32_w]
                  rfl
                 refine pure_ (i := 5) (N := some 95) (v := ?_) (a' := ?_) (bm 25 62) rfl rfl (any_of HT_.out (by kernel_rfl)) (fun _ _ _ h => h) (Or.inl ⟨by rfl, ?_⟩) ?_ ?_
                 rotate_left
                 ·intro w'
                  go_simp
                  with_reducible rfl
                 rotate_left
                 ·simp only [Act.put, List.setIfInBounds_toArray, List.set_cons_zero, List.set_cons_succ, i64_w, i32_w]
                  rfl
                 refine take_ (i := 0) (N := some 90) (v := ?_) (a' := ?_) (bm 25 63) rfl rfl (take_ofW HT_.out HW_.out (by kernel_rfl)) (fun _ _ _ h => h) (Or.inl ⟨by rfl, ?_⟩) hHeld ?_ ?_
                 rotate_left
                 ·rintro w' ⟨s0, s1, s2, s3⟩
                  go_simp
                  with_reducible rfl
                 rotate_left
                 ·simp only [Act.put, List.setIfInBounds_toArray, List.set_cons_zero, List.set_cons_succ, i64_w, i32_w]
                  rfl
                 refine take_ (i := 6) (N := some 96) (v := ?_) (a' := ?_) (bm 25 127) rfl rfl (take_ofW HT_.out HW_.out (by kernel_rfl)) (fun _ _ _ h => h) (Or.inl ⟨by rfl, ?_⟩) hHeld ?_ ?_
                 rotate_left
                 ·rintro w' ⟨s0, s1, s2, s3⟩
                  go_simp
                  with_reducible rfl
                 rotate_left
                 ·simp only [Act.put, List.setIfInBounds_toArray, List.set_cons_zero, List.set_cons_succ, i64_w, i32_w]
                  rfl
                 refine one_ (i := 7) (N := some 97) (bm 25 255) rfl rfl (one_of HT_.out (by kernel_rfl)) (by decide) (fun K hK => ?_)
                 refine goes_ Try.func20 (by kernel_rfl) rfl #[.agg #[.int .i64 t388, .slice Ao85 t389.length co85, .slice Ao86 t392.length co86], .int .i64 t395, .bool t396, .int .i64 (rd t398 x13_4)] (by rfl) rfl rfl zG ?_
                 with_reducible refine (impl_MoveOf.calls t388 _ _ t389 _ _ t392 t395 t396 (rd t398 x13_4) t402 _ ?side1 ?side2 ?side3 ?side4 A90.out).mono ?_
                 (case side1 => repeat (first | exact (Kd.R_reads' HO_398001.out).2.2 | (with_reducible refine Kd.C_alloc ?_ _) | (with_reducible refine Kd.C_drewN ?_ _) | (with_reducible refine Kd.C_drew ?_)))
                 (case side2 => exact (Kd.R_reads' HO_398001.out).2.1)
                 (case side3 => repeat (first | exact (Kd.R_reads' HO_398002.out).2.2 | (with_reducible refine Kd.C_alloc ?_ _) | (with_reducible refine Kd.C_drewN ?_ _) | (with_reducible refine Kd.C_drew ?_)))
                 (case side4 => exact (Kd.R_reads' HO_398002.out).2.1)
                 rintro e w102 ⟨rfl, hb⟩
                 have HS3_ := (hb.cell (World.block_lt_of_cell? _ _ (hHeld.2.2.2))).trans (hHeld.2.2.2)
                 refine ⟨_, rfl, ?_⟩
                 have n0_ := Aside0.mk (Kd.R_below (zR HO_12) hb)
                 have n1_ := Aside0.mk (Kd.R_below (zR HO_360001) hb)
                 have n2_ := Aside0.mk (Kd.R_below (zR HO_360002) hb)
                 have n3_ := Aside0.mk (Kd.R_below (zR HO_368001) hb)
                 have n4_ := Aside0.mk (Kd.R_below (zR HO_368002) hb)
                 have n5_ := Aside0.mk (Kd.R_below (zR HO_398001) hb)
                 have n6_ := Aside0.mk (Kd.R_below (zR HO_398002) hb)
                 have n7_ := kB BK359 hb
                 have n8_ := kB BK367 hb
                 have n9_ := kB BK397 hb
                 have n10_ := bS HB hb
                 clear HO_12
                 clear HO_360001
                 clear HO_360002
                 clear HO_368001
                 clear HO_368002
                 clear HO_398001
                 clear HO_398002
                 clear BK359
                 clear BK367
                 clear BK397
                 clear HB
                 have HO_12 := n0_
                 have HO_360001 := n1_
                 have HO_360002 := n2_
                 have HO_368001 := n3_
                 have HO_368002 := n4_
                 have HO_398001 := n5_
                 have HO_398002 := n6_
                 have BK359 := n7_
                 have BK367 := n8_
                 have BK397 := n9_
                 have HB := n10_
                 clear n0_ n1_ n2_ n3_ n4_ n5_ n6_ n7_ n8_ n9_ n10_
                 (try clear hb)
                 (try clear hb2)
                 (try clear hk)
                 (try clear hi)
                 refine hK.out _ _ ⟨bc0 BK397, bc1 BK397, bc2 BK397, HS3_⟩ (fun hHeld => ?_)
                 clear hK K
                 refine norm_ (a' := ?_) ?_ ?_
                 rotate_left
                 ·show Act.put _ (some 97) _ = _
                  simp only [Act.put, List.setIfInBounds_toArray, List.set_cons_zero, List.set_cons_succ, i64_w, i32_w]
                  rfl
                 refine pure_ (i := 8) (N := some 98) (v := ?_) (a' := ?_) (bm 25 511) rfl rfl (any_of HT_.out (by kernel_rfl)) (fun _ _ _ h => h) (Or.inl ⟨by rfl, ?_⟩) ?_ ?_
                 rotate_left
                 ·intro w'
                  go_simp
                  with_reducible rfl
                 rotate_left
                 ·simp only [Act.put, List.setIfInBounds_toArray, List.set_cons_zero, List.set_cons_succ, i64_w, i32_w]
                  rfl
                 refine pure_ (i := 9) (N := some 99) (v := ?_) (a' := ?_) (bm 25 1023) rfl rfl (any_of HT_.out (by kernel_rfl)) (fun _ _ _ h => h) (Or.inl ⟨by rfl, ?_⟩) ?_ ?_
                 rotate_left
                 ·intro w'
                  go_simp
                  with_reducible rfl
                 rotate_left
                 ·simp only [Act.put, List.setIfInBounds_toArray, List.set_cons_zero, List.set_cons_succ, i64_w, i32_w]
                  rfl
                 refine pure_ (i := 10) (N := some 100) (v := ?_) (a' := ?_) (bm 25 2047) rfl rfl (any_of HT_.out (by kernel_rfl)) (fun _ _ _ h => h) (Or.inl ⟨by rfl, ?_⟩) ?_ ?_
                 rotate_left
                 ·intro w'
                  go_simp
                  with_reducible rfl
                 rotate_left
                 ·simp only [Act.put, List.setIfInBounds_toArray, List.set_cons_zero, List.set_cons_succ, i64_w, i32_w]
                  rfl
                 refine pure_ (i := 11) (N := some 101) (v := ?_) (a' := ?_) (bm 25 4095) rfl rfl (any_of HT_.out (by kernel_rfl)) (fun _ _ _ h => h) (Or.inl ⟨by rfl, ?_⟩) ?_ ?_
                 rotate_left
                 ·intro w'
                  go_simp
                  with_reducible rfl
                 rotate_left
                 ·simp only [Act.put, List.setIfInBounds_toArray, List.set_cons_zero, List.set_cons_succ, i64_w, i32_w]
                  rfl
                 refine pure_ (i := 12) (N := some 102) (v := ?_) (a' := ?_) (bm 25 8191) rfl rfl (any_of HT_.out (by kernel_rfl)) (fun _ _ _ h => h) (Or.inl ⟨by rfl, ?_⟩) ?_ ?_
                 rotate_left
                 ·intro w'
                  go_simp
                  with_reducible rfl
                 rotate_left
                 ·simp only [Act.put, List.setIfInBounds_toArray, List.set_cons_zero, List.set_cons_succ, i64_w, i32_w]
                  rfl
                 refine pure_ (i := 13) (N := some 103) (v := undef) (a' := ?_) (bm 25 16383) rfl rfl (any_of HT_.out (by kernel_rfl)) (fun _ _ _ h => h) (Or.inr ⟨by rfl, rfl⟩) ?_ ?_
                 rotate_left
                 ·simp only [Act.put, List.setIfInBounds_toArray, List.set_cons_zero, List.set_cons_succ, i64_w, i32_w]
                  rfl
                 refine pure_ (i := 14) (N := some 104) (v := undef) (a' := ?_) (bm 25 32767) rfl rfl (any_of HT_.out (by kernel_rfl)) (fun _ _ _ h => h) (Or.inr ⟨by rfl, rfl⟩) ?_ ?_
                 rotate_left
                 ·simp only [Act.put, List.setIfInBounds_toArray, List.set_cons_zero, List.set_cons_succ, i64_w, i32_w]
                  rfl
                 refine pure_ (i := 15) (N := some 105) (v := undef) (a' := ?_) (bm 25 65535) rfl rfl (any_of HT_.out (by kernel_rfl)) (fun _ _ _ h => h) (Or.inr ⟨by rfl, rfl⟩) ?_ ?_
                 rotate_left
                 ·simp only [Act.put, List.setIfInBounds_toArray, List.set_cons_zero, List.set_cons_succ, i64_w, i32_w]
                  rfl
                 refine pure_ (i := 16) (N := some 106) (v := undef) (a' := ?_) (bm 25 131071) rfl rfl (any_of HT_.out (by kernel_rfl)) (fun _ _ _ h => h) (Or.inr ⟨by rfl, rfl⟩) ?_ ?_
                 rotate_left
                 ·simp only [Act.put, List.setIfInBounds_toArray, List.set_cons_zero, List.set_cons_succ, i64_w, i32_w]
                  rfl
                 refine pure_ (i := 17) (N := some 107) (v := undef) (a' := ?_) (bm 25 262143) rfl rfl (any_of HT_.out (by kernel_rfl)) (fun _ _ _ h => h) (Or.inr ⟨by rfl, rfl⟩) ?_ ?_
                 rotate_left
                 ·simp only [Act.put, List.setIfInBounds_toArray, List.set_cons_zero, List.set_cons_succ, i64_w, i32_w]
                  rfl
                 refine pure_ (i := 18) (N := some 108) (v := undef) (a' := ?_) (bm 25 524287) rfl rfl (any_of HT_.out (by kernel_rfl)) (fun _ _ _ h => h) (Or.inr ⟨by rfl, rfl⟩) ?_ ?_
                 rotate_left
                 ·simp only [Act.put, List.setIfInBounds_toArray, List.set_cons_zero, List.set_cons_succ, i64_w, i32_w]
                  rfl
                 refine pure_ (i := 19) (N := some 109) (v := undef) (a' := ?_) (bm 25 1048575) rfl rfl (any_of HT_.out (by kernel_rfl)) (fun _ _ _ h => h) (Or.inr ⟨by rfl, rfl⟩) ?_ ?_
                 rotate_left
                 ·simp only [Act.put, List.setIfInBounds_toArray, List.set_cons_zero, List.set_cons_succ, i64_w, i32_w]
                  rfl
                 refine pure_ (i := 20) (N := some 110) (v := undef) (a' := ?_) (bm 25 2097151) rfl rfl (any_of HT_.out (by kernel_rfl)) (fun _ _ _ h => h) (Or.inr ⟨by rfl, rfl⟩) ?_ ?_
                 rotate_left
                 ·simp only [Act.put, List.setIfInBounds_toArray, List.set_cons_zero, List.set_cons_succ, i64_w, i32_w]
                  rfl
                 refine pure_ (i := 21) (N := some 111) (v := undef) (a' := ?_) (bm 25 4194303) rfl rfl (any_of HT_.out (by kernel_rfl)) (fun _ _ _ h => h) (Or.inr ⟨by rfl, rfl⟩) ?_ ?_
                 rotate_left
                 ·simp only [Act.put, List.setIfInBounds_toArray, List.set_cons_zero, List.set_cons_succ, i64_w, i32_w]
                  rfl
                 refine pure_ (i := 22) (N := some 112) (v := undef) (a' := ?_) (bm 25 8388607) rfl rfl (any_of HT_.out (by kernel_rfl)) (fun _ _ _ h => h) (Or.inr ⟨by rfl, rfl⟩) ?_ ?_
                 rotate_left
                 ·simp only [Act.put, List.setIfInBounds_toArray, List.set_cons_zero, List.set_cons_succ, i64_w, i32_w]
                  rfl
                 refine pure_ (i := 23) (N := some 113) (v := ?_) (a' := ?_) (bm 25 16777215) rfl rfl (any_of HT_.out (by kernel_rfl)) (fun _ _ _ h => h) (Or.inl ⟨by rfl, ?_⟩) ?_ ?_
                 rotate_left
                 ·intro w'
                  go_simp
                  with_reducible rfl
                 rotate_left
                 ·simp only [Act.put, List.setIfInBounds_toArray, List.set_cons_zero, List.set_cons_succ, i64_w, i32_w]
                  rfl
                 refine pure_ (i := 24) (N := some 114) (v := ?_) (a' := ?_) (bm 25 33554431) rfl rfl (any_of HT_.out (by kernel_rfl)) (fun _ _ _ h => h) (Or.inl ⟨by rfl, ?_⟩) ?_ ?_
                 rotate_left
                 ·intro w'
                  go_simp
                  with_reducible rfl
                 rotate_left
                 ·simp only [Act.put, List.setIfInBounds_toArray, List.set_cons_zero, List.set_cons_succ, i64_w, i32_w]
                  rfl
                 refine done_ (done_of HT_.out (by kernel_rfl)) ?_
                 try clear hHeld
                 try go_wp2
                 go_roundg k4
                 case measure => have := HJ5.out; have := HK2.out; have := HJ45.out; have := HK4.out; omega
                 case rel => exact ⟨(wrap64 (x13_4 + 1)), zF, H', ⟨by have := HJ5.out; have := HK2.out; have := HJ45.out; have := HK4.out; omega⟩, ⟨zR HO_12⟩, ⟨zR HO_360001⟩, ⟨zR HO_360002⟩, ⟨zR HO_368001⟩, ⟨zR HO_368002⟩, ⟨zR HO_398001⟩, ⟨zR HO_398002⟩, ⟨zK BK359⟩, ⟨zK BK367⟩, ⟨zK BK397⟩, ⟨zB HB⟩⟩
              ·rw [if_neg c89] at H
               exact absurd H (by simp)
             ·rw [if_neg c88] at H
              have c88b0 : decide (x13_4 < (t398.length : Int)) = false := decide_eq_false c88
              clear c88
              obtain rfl := Option.some.inj H
              obtain ⟨Ao103, co103, eo103⟩ := Kd.R_slice HO_12.out
              subst eo103
              go_wp2
              go_ret
              exact ⟨by first | rfl | (simp [errW_none, errW_some] <;> rfl) | (simp [*, errW_none, errW_some] <;> rfl), by repeat (first | (with_reducible first | exact HB.out | apply below_alloc | apply pw_below_drewN | apply below_drew1 | refine below_set ?_ GE359.out | refine below_set ?_ GE367.out | refine below_set ?_ GE397.out) | exact HB.out)⟩

/-- THE ONE PURE STATEMENT of laws_FnMachines: yours. -/
def laws_FnMachines.Pure : Prop := ∀ (l0 : List Int), l0.length ≤ maxLen → l0.length * 1 ≤ 140737488351232 → (∀ x ∈ l0, (Lit.int .u8 x).wf = true) → ∃ k, laws_FnMachines.f k l0 = some true
theorem laws_FnMachines.walk (P : laws_FnMachines.Pure) (a0 : Option Addr) (len0 cap0 : Nat) (z0 : List Int) (w : World) (w0 : (a0 = none ∧ len0 = 0 ∧ cap0 = 0 ∧ z0 = []) ∨ ∃ x, a0 = some x ∧ len0 ≤ cap0 ∧ cap0 ≤ maxLen ∧ z0.length = cap0 ∧ (∀ i, i < z0.length → w.cell? (x.add i) = some (.int .u8 (z0.getD i 0))) ∧ ∀ n ∈ z0, (Lit.int .u8 n).wf = true) (y0 : len0 * 1 ≤ 140737488351232) :
  Calls Try.prog 4 #[.slice a0 len0 cap0] w fun e w' => e = .returned (.bool true) ∧ Below w.heap.size w w' := by
 obtain ⟨l0, rfl, hr0, hm0, hw0, hc0⟩ := ReadsInt.ofRowC w0
 obtain ⟨k, h⟩ := P l0 hm0 y0 hw0
 refine (laws_FnMachines.calls k _ _ l0 true w (Kd.C_of_reads (d := (0 : Int)) (h1 := fun _ => rfl) hr0) hc0 rfl h).mono ?_
 rintro e w' ⟨rfl, hd⟩
 exact ⟨rfl, hd⟩

end Go.Proofs.Ytjlaogjikkckkaa.PFnMachines
