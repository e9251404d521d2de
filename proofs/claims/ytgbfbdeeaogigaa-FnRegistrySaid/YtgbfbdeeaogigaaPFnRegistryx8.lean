-- WRITTEN by pp.py, this session's own wrapper around the print; not trusted: Lean checks it
import Derived.Test.YtgbfbdeeaogigaaPFnRegistryx0
import Derived.Test.YtgbfbdeeaogigaaPFnRegistryx1
import Derived.Test.YtgbfbdeeaogigaaPFnRegistryx2
import Derived.Test.YtgbfbdeeaogigaaPFnRegistryx6
import Derived.Test.YtgbfbdeeaogigaaPFnRegistryx7
namespace Go.Proofs.Ytgbfbdeeaogigaa.PFnRegistry
open Go.RowKit Go.Proofs.Ytgbfbdeeaogigaa.Hw Go.Proofs.YtgbfbdeeaogigaaW.PrintWords Go.Proofs.YtgbfbdeeaogigaaW.PrintLast Go.Proofs.YtgbfbdeeaogigaaW.PrintMore
attribute [local go_sem] max2_int min2_int max_two min_two max_three min_three max_four min_four   -- for this text's walks alone
set_option linter.unusedVariables false
set_option linter.unusedSimpArgs false
set_option linter.unusedSectionVars false

/-! ### laws_FnRegistry: function 4 -/
mutual
def laws_FnRegistry.j3 : Nat → List Int → List (S43) → Option (Bool)
 | 0, _, _ => none
 | k + 1, x0, x3 => (spec_DrawClashOf.f k x0).bind fun bt411 => ((impl_ClashOf.f k bt411.1 bt411.2.1 bt411.2.2).bind fun t418 => (laws_FnRegistry.l1 k x3 bt411.1 bt411.2.1 bt411.2.2 t418 0))
def laws_FnRegistry.l1 : Nat → List (S43) → List (S43) → List Int → Int → List Int → Int → Option (Bool)
 | 0, _, _, _, _, _, _ => none
 | k + 1, x3, x14, x15, x16, x17, x18 => if x18 < (x17.length : Int) then (if 0 ≤ x18 then ((laws_contains.f k x15 (rd x17 x18)).bind fun t428 => (if t428 = true then ((impl_IsReserved.f (rd x17 x18)).bind fun t430 => (if t430 = true then (laws_FnRegistry.l1 k x3 x14 x15 x16 x17 (wrap64 (x18 + 1))) else ((impl_OwnerOf.f x14 (rd x17 x18)).bind fun t432 => (if t432 = x16 then (some false) else (laws_FnRegistry.l1 k x3 x14 x15 x16 x17 (wrap64 (x18 + 1))))))) else (some false))) else (none)) else ((impl_LiveTags.f k x3).bind fun t421 => (if (t421.length : Int) ≤ (x3.length : Int) then ((spec_LiveTags.f k x3).bind fun t424 => (some ((t421.length : Int) == (t424.length : Int)))) else (some false)))
def laws_FnRegistry.j0 : Nat → List Int → List (S43) → Int → List (S43) → Int → Bool → Option (Bool)
 | 0, _, _, _, _, _, _ => none
 | k + 1, x0, x3, x4, x5, x6, x62 => if x62 = true then (some false) else ((impl_RetireTag.f k x5 x6).bind fun bt395 => ((impl_AssignTag.f k bt395.1 x4).bind fun bt399 => (if bt395.2 = true then ((impl_LiveTags.f k bt395.1).bind fun t404 => ((laws_contains.f k t404 x6).bind fun t407 => (if t407 = true then (laws_FnRegistry.j1 k x0 x3 x5 true) else (if bt399.2.2 = true then (laws_FnRegistry.j1 k x0 x3 x5 (bt399.2.1 == x6)) else (laws_FnRegistry.j1 k x0 x3 x5 false))))) else (laws_FnRegistry.j1 k x0 x3 x5 true))))
def laws_FnRegistry.j1 : Nat → List Int → List (S43) → List (S43) → Bool → Option (Bool)
 | 0, _, _, _, _ => none
 | k + 1, x0, x3, x5, x91 => if x91 = true then (some false) else (laws_FnRegistry.l0 k x0 x3 x5 0)
def laws_FnRegistry.l0 : Nat → List Int → List (S43) → List (S43) → Int → Option (Bool)
 | 0, _, _, _, _ => none
 | k + 1, x0, x3, x5, x13 => if x13 < (x3.length : Int) then (if 0 ≤ x13 then ((impl_OwnerOf.f x5 ((rd_T43 x3 x13).f0)).bind fun t409 => (if t409 = ((rd_T43 x3 x13).f1) then (laws_FnRegistry.l0 k x0 x3 x5 (wrap64 (x13 + 1))) else (some false))) else (none)) else (laws_FnRegistry.j3 k x0 x3)
end
def laws_FnRegistry.f (k : Nat) (l0 : List Int) : Option (Bool) := (laws_big.f l0).bind fun t381 => (if t381 = true then (some true) else ((spec_DrawAssignTag.f k l0).bind fun bt382 => ((impl_AssignTag.f k bt382.1 bt382.2).bind fun bt386 => (if bt386.2.2 = true then ((impl_IsRegistry.f k bt386.1).bind fun t391 => (if t391 = true then ((impl_OwnerOf.f bt382.1 bt386.2.1).bind fun t392 => (if t392 = (-1) then ((impl_OwnerOf.f bt386.1 bt386.2.1).bind fun t393 => (if t393 = bt382.2 then ((impl_IsReserved.f bt386.2.1).bind fun t394 => (if t394 = true then (laws_FnRegistry.j0 k l0 bt382.1 bt382.2 bt386.1 bt386.2.1 true) else (laws_FnRegistry.j0 k l0 bt382.1 bt382.2 bt386.1 bt386.2.1 ((bt386.1.length : Int) != (wrap64 ((bt382.1.length : Int) + 1)))))) else (laws_FnRegistry.j0 k l0 bt382.1 bt382.2 bt386.1 bt386.2.1 true))) else (laws_FnRegistry.j0 k l0 bt382.1 bt382.2 bt386.1 bt386.2.1 true))) else (laws_FnRegistry.j0 k l0 bt382.1 bt382.2 bt386.1 bt386.2.1 true))) else (laws_FnRegistry.j3 k l0 bt382.1)))))
theorem laws_FnRegistry.mono_l : ∀ k, (∀ y0 y1, LeO (laws_FnRegistry.j3 k y0 y1) (laws_FnRegistry.j3 (k + 1) y0 y1)) ∧ (∀ y0 y1 y2 y3 y4 y5, LeO (laws_FnRegistry.l1 k y0 y1 y2 y3 y4 y5) (laws_FnRegistry.l1 (k + 1) y0 y1 y2 y3 y4 y5)) ∧ (∀ y0 y1 y2 y3 y4 y5, LeO (laws_FnRegistry.j0 k y0 y1 y2 y3 y4 y5) (laws_FnRegistry.j0 (k + 1) y0 y1 y2 y3 y4 y5)) ∧ (∀ y0 y1 y2 y3, LeO (laws_FnRegistry.j1 k y0 y1 y2 y3) (laws_FnRegistry.j1 (k + 1) y0 y1 y2 y3)) ∧ (∀ y0 y1 y2 y3, LeO (laws_FnRegistry.l0 k y0 y1 y2 y3) (laws_FnRegistry.l0 (k + 1) y0 y1 y2 y3))
 | 0 => ⟨fun _ _ r h => by simp [laws_FnRegistry.j3] at h, fun _ _ _ _ _ _ r h => by simp [laws_FnRegistry.l1] at h, fun _ _ _ _ _ _ r h => by simp [laws_FnRegistry.j0] at h, fun _ _ _ _ r h => by simp [laws_FnRegistry.j1] at h, fun _ _ _ _ r h => by simp [laws_FnRegistry.l0] at h⟩
 | k + 1 => by
  obtain ⟨ih0, ih1, ih2, ih3, ih4⟩ := laws_FnRegistry.mono_l k
  refine ⟨?_, ?_, ?_, ?_, ?_⟩
  ·intro y0 y1
   unfold laws_FnRegistry.j3
   repeat' first
   | (with_reducible exact ih0 _ _)
   | (with_reducible exact ih1 _ _ _ _ _ _)
   | (with_reducible exact ih2 _ _ _ _ _ _)
   | (with_reducible exact ih3 _ _ _ _)
   | (with_reducible exact ih4 _ _ _ _)
   | (with_reducible exact impl_AssignTag.mono _ _ _)
   | (with_reducible exact impl_ClashOf.mono _ _ _ _)
   | (with_reducible exact impl_IsRegistry.mono _ _)
   | (with_reducible exact impl_LiveTags.mono _ _)
   | (with_reducible exact impl_RetireTag.mono _ _ _)
   | (with_reducible exact laws_contains.mono _ _ _)
   | (with_reducible exact spec_DrawAssignTag.mono _ _)
   | (with_reducible exact spec_DrawClashOf.mono _ _)
   | (with_reducible exact spec_LiveTags.mono _ _)
   | (with_reducible exact LeO.refl _)
   | (with_reducible exact LeO.none _)
   | (with_reducible refine LeO.ite ?_ ?_)
   | (with_reducible refine LeO.bind ?_ (fun _ => ?_))
   | exact ih0 _ _
   | exact ih1 _ _ _ _ _ _
   | exact ih2 _ _ _ _ _ _
   | exact ih3 _ _ _ _
   | exact ih4 _ _ _ _
   | exact impl_AssignTag.mono _ _ _
   | exact impl_ClashOf.mono _ _ _ _
   | exact impl_IsRegistry.mono _ _
   | exact impl_LiveTags.mono _ _
   | exact impl_RetireTag.mono _ _ _
   | exact laws_contains.mono _ _ _
   | exact spec_DrawAssignTag.mono _ _
   | exact spec_DrawClashOf.mono _ _
   | exact spec_LiveTags.mono _ _
   | exact LeO.none _
   | refine LeO.ite ?_ ?_
   | refine LeO.bind ?_ (fun _ => ?_)
  ·intro y0 y1 y2 y3 y4 y5
   unfold laws_FnRegistry.l1
   repeat' first
   | (with_reducible exact ih0 _ _)
   | (with_reducible exact ih1 _ _ _ _ _ _)
   | (with_reducible exact ih2 _ _ _ _ _ _)
   | (with_reducible exact ih3 _ _ _ _)
   | (with_reducible exact ih4 _ _ _ _)
   | (with_reducible exact impl_AssignTag.mono _ _ _)
   | (with_reducible exact impl_ClashOf.mono _ _ _ _)
   | (with_reducible exact impl_IsRegistry.mono _ _)
   | (with_reducible exact impl_LiveTags.mono _ _)
   | (with_reducible exact impl_RetireTag.mono _ _ _)
   | (with_reducible exact laws_contains.mono _ _ _)
   | (with_reducible exact spec_DrawAssignTag.mono _ _)
   | (with_reducible exact spec_DrawClashOf.mono _ _)
   | (with_reducible exact spec_LiveTags.mono _ _)
   | (with_reducible exact LeO.refl _)
   | (with_reducible exact LeO.none _)
   | (with_reducible refine LeO.ite ?_ ?_)
   | (with_reducible refine LeO.bind ?_ (fun _ => ?_))
   | exact ih0 _ _
   | exact ih1 _ _ _ _ _ _
   | exact ih2 _ _ _ _ _ _
   | exact ih3 _ _ _ _
   | exact ih4 _ _ _ _
   | exact impl_AssignTag.mono _ _ _
   | exact impl_ClashOf.mono _ _ _ _
   | exact impl_IsRegistry.mono _ _
   | exact impl_LiveTags.mono _ _
   | exact impl_RetireTag.mono _ _ _
   | exact laws_contains.mono _ _ _
   | exact spec_DrawAssignTag.mono _ _
   | exact spec_DrawClashOf.mono _ _
   | exact spec_LiveTags.mono _ _
   | exact LeO.none _
   | refine LeO.ite ?_ ?_
   | refine LeO.bind ?_ (fun _ => ?_)
  ·intro y0 y1 y2 y3 y4 y5
   unfold laws_FnRegistry.j0
   repeat' first
   | (with_reducible exact ih0 _ _)
   | (with_reducible exact ih1 _ _ _ _ _ _)
   | (with_reducible exact ih2 _ _ _ _ _ _)
   | (with_reducible exact ih3 _ _ _ _)
   | (with_reducible exact ih4 _ _ _ _)
   | (with_reducible exact impl_AssignTag.mono _ _ _)
   | (with_reducible exact impl_ClashOf.mono _ _ _ _)
   | (with_reducible exact impl_IsRegistry.mono _ _)
   | (with_reducible exact impl_LiveTags.mono _ _)
   | (with_reducible exact impl_RetireTag.mono _ _ _)
   | (with_reducible exact laws_contains.mono _ _ _)
   | (with_reducible exact spec_DrawAssignTag.mono _ _)
   | (with_reducible exact spec_DrawClashOf.mono _ _)
   | (with_reducible exact spec_LiveTags.mono _ _)
   | (with_reducible exact LeO.refl _)
   | (with_reducible exact LeO.none _)
   | (with_reducible refine LeO.ite ?_ ?_)
   | (with_reducible refine LeO.bind ?_ (fun _ => ?_))
   | exact ih0 _ _
   | exact ih1 _ _ _ _ _ _
   | exact ih2 _ _ _ _ _ _
   | exact ih3 _ _ _ _
   | exact ih4 _ _ _ _
   | exact impl_AssignTag.mono _ _ _
   | exact impl_ClashOf.mono _ _ _ _
   | exact impl_IsRegistry.mono _ _
   | exact impl_LiveTags.mono _ _
   | exact impl_RetireTag.mono _ _ _
   | exact laws_contains.mono _ _ _
   | exact spec_DrawAssignTag.mono _ _
   | exact spec_DrawClashOf.mono _ _
   | exact spec_LiveTags.mono _ _
   | exact LeO.none _
   | refine LeO.ite ?_ ?_
   | refine LeO.bind ?_ (fun _ => ?_)
  ·intro y0 y1 y2 y3
   unfold laws_FnRegistry.j1
   repeat' first
   | (with_reducible exact ih0 _ _)
   | (with_reducible exact ih1 _ _ _ _ _ _)
   | (with_reducible exact ih2 _ _ _ _ _ _)
   | (with_reducible exact ih3 _ _ _ _)
   | (with_reducible exact ih4 _ _ _ _)
   | (with_reducible exact impl_AssignTag.mono _ _ _)
   | (with_reducible exact impl_ClashOf.mono _ _ _ _)
   | (with_reducible exact impl_IsRegistry.mono _ _)
   | (with_reducible exact impl_LiveTags.mono _ _)
   | (with_reducible exact impl_RetireTag.mono _ _ _)
   | (with_reducible exact laws_contains.mono _ _ _)
   | (with_reducible exact spec_DrawAssignTag.mono _ _)
   | (with_reducible exact spec_DrawClashOf.mono _ _)
   | (with_reducible exact spec_LiveTags.mono _ _)
   | (with_reducible exact LeO.refl _)
   | (with_reducible exact LeO.none _)
   | (with_reducible refine LeO.ite ?_ ?_)
   | (with_reducible refine LeO.bind ?_ (fun _ => ?_))
   | exact ih0 _ _
   | exact ih1 _ _ _ _ _ _
   | exact ih2 _ _ _ _ _ _
   | exact ih3 _ _ _ _
   | exact ih4 _ _ _ _
   | exact impl_AssignTag.mono _ _ _
   | exact impl_ClashOf.mono _ _ _ _
   | exact impl_IsRegistry.mono _ _
   | exact impl_LiveTags.mono _ _
   | exact impl_RetireTag.mono _ _ _
   | exact laws_contains.mono _ _ _
   | exact spec_DrawAssignTag.mono _ _
   | exact spec_DrawClashOf.mono _ _
   | exact spec_LiveTags.mono _ _
   | exact LeO.none _
   | refine LeO.ite ?_ ?_
   | refine LeO.bind ?_ (fun _ => ?_)
  ·intro y0 y1 y2 y3
   unfold laws_FnRegistry.l0
   repeat' first
   | (with_reducible exact ih0 _ _)
   | (with_reducible exact ih1 _ _ _ _ _ _)
   | (with_reducible exact ih2 _ _ _ _ _ _)
   | (with_reducible exact ih3 _ _ _ _)
   | (with_reducible exact ih4 _ _ _ _)
   | (with_reducible exact impl_AssignTag.mono _ _ _)
   | (with_reducible exact impl_ClashOf.mono _ _ _ _)
   | (with_reducible exact impl_IsRegistry.mono _ _)
   | (with_reducible exact impl_LiveTags.mono _ _)
   | (with_reducible exact impl_RetireTag.mono _ _ _)
   | (with_reducible exact laws_contains.mono _ _ _)
   | (with_reducible exact spec_DrawAssignTag.mono _ _)
   | (with_reducible exact spec_DrawClashOf.mono _ _)
   | (with_reducible exact spec_LiveTags.mono _ _)
   | (with_reducible exact LeO.refl _)
   | (with_reducible exact LeO.none _)
   | (with_reducible refine LeO.ite ?_ ?_)
   | (with_reducible refine LeO.bind ?_ (fun _ => ?_))
   | exact ih0 _ _
   | exact ih1 _ _ _ _ _ _
   | exact ih2 _ _ _ _ _ _
   | exact ih3 _ _ _ _
   | exact ih4 _ _ _ _
   | exact impl_AssignTag.mono _ _ _
   | exact impl_ClashOf.mono _ _ _ _
   | exact impl_IsRegistry.mono _ _
   | exact impl_LiveTags.mono _ _
   | exact impl_RetireTag.mono _ _ _
   | exact laws_contains.mono _ _ _
   | exact spec_DrawAssignTag.mono _ _
   | exact spec_DrawClashOf.mono _ _
   | exact spec_LiveTags.mono _ _
   | exact LeO.none _
   | refine LeO.ite ?_ ?_
   | refine LeO.bind ?_ (fun _ => ?_)
theorem laws_FnRegistry.mono : ∀ a0 k, LeO (laws_FnRegistry.f k a0) (laws_FnRegistry.f (k + 1) a0) := by
 intro a0 k
 obtain ⟨ih0, ih1, ih2, ih3, ih4⟩ := laws_FnRegistry.mono_l k
 unfold laws_FnRegistry.f
 repeat' first
   | (with_reducible exact ih0 _ _)
   | (with_reducible exact ih1 _ _ _ _ _ _)
   | (with_reducible exact ih2 _ _ _ _ _ _)
   | (with_reducible exact ih3 _ _ _ _)
   | (with_reducible exact ih4 _ _ _ _)
   | (with_reducible exact impl_AssignTag.mono _ _ _)
   | (with_reducible exact impl_ClashOf.mono _ _ _ _)
   | (with_reducible exact impl_IsRegistry.mono _ _)
   | (with_reducible exact impl_LiveTags.mono _ _)
   | (with_reducible exact impl_RetireTag.mono _ _ _)
   | (with_reducible exact laws_contains.mono _ _ _)
   | (with_reducible exact spec_DrawAssignTag.mono _ _)
   | (with_reducible exact spec_DrawClashOf.mono _ _)
   | (with_reducible exact spec_LiveTags.mono _ _)
   | (with_reducible exact LeO.refl _)
   | (with_reducible exact LeO.none _)
   | (with_reducible refine LeO.ite ?_ ?_)
   | (with_reducible refine LeO.bind ?_ (fun _ => ?_))
   | exact ih0 _ _
   | exact ih1 _ _ _ _ _ _
   | exact ih2 _ _ _ _ _ _
   | exact ih3 _ _ _ _
   | exact ih4 _ _ _ _
   | exact impl_AssignTag.mono _ _ _
   | exact impl_ClashOf.mono _ _ _ _
   | exact impl_IsRegistry.mono _ _
   | exact impl_LiveTags.mono _ _
   | exact impl_RetireTag.mono _ _ _
   | exact laws_contains.mono _ _ _
   | exact spec_DrawAssignTag.mono _ _
   | exact spec_DrawClashOf.mono _ _
   | exact spec_LiveTags.mono _ _
   | exact LeO.none _
   | refine LeO.ite ?_ ?_
   | refine LeO.bind ?_ (fun _ => ?_)
def laws_FnRegistry.T15 : Bool × List (List Nat × List Nat) := (true, [([], []), ([], []), ([], []), ([1, 2], [1, 2]), ([3], [3]), ([4], [4]), ([0, 5], [0, 5]), ([], []), ([], []), ([7, 8], [7, 8]), ([9], [9]), ([10], [10]), ([6, 11], [6, 11])])
def laws_FnRegistry.B15 : List Nat := [0, 0, 0, 6, 14, 30, 63, 0, 0, 384, 896, 1920, 4095]
theorem laws_FnRegistry.tab15 : rtab .any (opsOf Try.f4 15) = laws_FnRegistry.T15 := by kernel_rfl
theorem laws_FnRegistry.bits15 : waitsOk laws_FnRegistry.T15.2 laws_FnRegistry.B15 = true := by kernel_rfl
set_option maxHeartbeats 8000000 in
set_option maxRecDepth 100000 in
theorem laws_FnRegistry.calls (k : Nat) (A0 : Option Addr) (c0 : Nat) (l0 : List Int) (r : Bool) (w : World) (hr0 : Kd.C (Kd.int .u8) w A0 l0.length l0) (hc0 : l0.length ≤ c0) (h : laws_FnRegistry.f k l0 = some r) :
  Calls Try.prog 4 #[.slice A0 l0.length c0] w fun e w' => e = .returned (.bool r) ∧ Below w.heap.size w w' := by
 have HR0 := Aside0.mk hr0
 have HC0 := Aside0.mk hc0
 clear hr0 hc0
 have HB := Aside0.mk (Below.refl w.heap.size w)
 have H : ((laws_big.f l0).bind fun t381 => (if t381 = true then (some true) else ((spec_DrawAssignTag.f k l0).bind fun bt382 => ((impl_AssignTag.f k bt382.1 bt382.2).bind fun bt386 => (if bt386.2.2 = true then ((impl_IsRegistry.f k bt386.1).bind fun t391 => (if t391 = true then ((impl_OwnerOf.f bt382.1 bt386.2.1).bind fun t392 => (if t392 = (-1) then ((impl_OwnerOf.f bt386.1 bt386.2.1).bind fun t393 => (if t393 = bt382.2 then ((impl_IsReserved.f bt386.2.1).bind fun t394 => (if t394 = true then (laws_FnRegistry.j0 k l0 bt382.1 bt382.2 bt386.1 bt386.2.1 true) else (laws_FnRegistry.j0 k l0 bt382.1 bt382.2 bt386.1 bt386.2.1 ((bt386.1.length : Int) != (wrap64 ((bt382.1.length : Int) + 1)))))) else (laws_FnRegistry.j0 k l0 bt382.1 bt382.2 bt386.1 bt386.2.1 true))) else (laws_FnRegistry.j0 k l0 bt382.1 bt382.2 bt386.1 bt386.2.1 true))) else (laws_FnRegistry.j0 k l0 bt382.1 bt382.2 bt386.1 bt386.2.1 true))) else (laws_FnRegistry.j3 k l0 bt382.1)))))) = some r := h
 clear h
 obtain ⟨t381, A2, H⟩ := bindS H
 by_cases c3 : t381 = true
 ·subst c3
  have H1 : (some true) = some r := by rw [if_pos rfl] at H; exact H
  clear H
  have H := H1
  clear H1
  obtain rfl := Option.some.inj H
  go_enter Try.func4, Try.ntmps4
  go_wp2_with (first | ((with_reducible refine gate_callee (f := 12) rfl ?_); refine goesL_ (some 21) rfl rfl Try.func12 (by kernel_rfl) rfl #[.slice A0 l0.length c0] rfl zG ?_; (with_reducible refine (laws_big.calls _ _ l0 true _ ?side1 ?side2 A2.out).mono ?_); (case side1 => exact cT HR0); (case side2 => exact HC0.out); rintro e w' ⟨rfl, ⟨nd, rfl⟩⟩; refine ⟨_, rfl, ?_⟩))
  go_ret
  exact ⟨zE, zB HB⟩
 ·replace c3 := Bool.eq_false_iff.mpr c3
  subst c3
  have H1 : ((spec_DrawAssignTag.f k l0).bind fun bt382 => ((impl_AssignTag.f k bt382.1 bt382.2).bind fun bt386 => (if bt386.2.2 = true then ((impl_IsRegistry.f k bt386.1).bind fun t391 => (if t391 = true then ((impl_OwnerOf.f bt382.1 bt386.2.1).bind fun t392 => (if t392 = (-1) then ((impl_OwnerOf.f bt386.1 bt386.2.1).bind fun t393 => (if t393 = bt382.2 then ((impl_IsReserved.f bt386.2.1).bind fun t394 => (if t394 = true then (laws_FnRegistry.j0 k l0 bt382.1 bt382.2 bt386.1 bt386.2.1 true) else (laws_FnRegistry.j0 k l0 bt382.1 bt382.2 bt386.1 bt386.2.1 ((bt386.1.length : Int) != (wrap64 ((bt382.1.length : Int) + 1)))))) else (laws_FnRegistry.j0 k l0 bt382.1 bt382.2 bt386.1 bt386.2.1 true))) else (laws_FnRegistry.j0 k l0 bt382.1 bt382.2 bt386.1 bt386.2.1 true))) else (laws_FnRegistry.j0 k l0 bt382.1 bt382.2 bt386.1 bt386.2.1 true))) else (laws_FnRegistry.j3 k l0 bt382.1)))) = some r := by rw [if_neg (show ¬ (false = true) by decide)] at H; exact H
  clear H
  have H := H1
  clear H1
  replace H := Option.bind_eq_some_iff.mp H
  obtain ⟨⟨t382, t383⟩, A40, H⟩ := H
  replace H : ((impl_AssignTag.f k t382 t383).bind fun bt386 => (if bt386.2.2 = true then ((impl_IsRegistry.f k bt386.1).bind fun t391 => (if t391 = true then ((impl_OwnerOf.f t382 bt386.2.1).bind fun t392 => (if t392 = (-1) then ((impl_OwnerOf.f bt386.1 bt386.2.1).bind fun t393 => (if t393 = t383 then ((impl_IsReserved.f bt386.2.1).bind fun t394 => (if t394 = true then (laws_FnRegistry.j0 k l0 t382 t383 bt386.1 bt386.2.1 true) else (laws_FnRegistry.j0 k l0 t382 t383 bt386.1 bt386.2.1 ((bt386.1.length : Int) != (wrap64 ((t382.length : Int) + 1)))))) else (laws_FnRegistry.j0 k l0 t382 t383 bt386.1 bt386.2.1 true))) else (laws_FnRegistry.j0 k l0 t382 t383 bt386.1 bt386.2.1 true))) else (laws_FnRegistry.j0 k l0 t382 t383 bt386.1 bt386.2.1 true))) else (laws_FnRegistry.j3 k l0 t382))) = some r := H
  have A4 := Aside0.mk A40
  clear A40
  replace H := Option.bind_eq_some_iff.mp H
  obtain ⟨⟨t386, t387, t388⟩, A50, H⟩ := H
  replace H : (if t388 = true then ((impl_IsRegistry.f k t386).bind fun t391 => (if t391 = true then ((impl_OwnerOf.f t382 t387).bind fun t392 => (if t392 = (-1) then ((impl_OwnerOf.f t386 t387).bind fun t393 => (if t393 = t383 then ((impl_IsReserved.f t387).bind fun t394 => (if t394 = true then (laws_FnRegistry.j0 k l0 t382 t383 t386 t387 true) else (laws_FnRegistry.j0 k l0 t382 t383 t386 t387 ((t386.length : Int) != (wrap64 ((t382.length : Int) + 1)))))) else (laws_FnRegistry.j0 k l0 t382 t383 t386 t387 true))) else (laws_FnRegistry.j0 k l0 t382 t383 t386 t387 true))) else (laws_FnRegistry.j0 k l0 t382 t383 t386 t387 true))) else (laws_FnRegistry.j3 k l0 t382)) = some r := H
  have A5 := Aside0.mk A50
  clear A50
  have HC6 := Aside0.mk H
  clear H
  go_enter Try.func4, Try.ntmps4
  go_upto_if 34 with (first | ((with_reducible refine gate_callee (f := 12) rfl ?_); refine goesL_ (some 21) rfl rfl Try.func12 (by kernel_rfl) rfl #[.slice A0 l0.length c0] rfl zG ?_; (with_reducible refine (laws_big.calls _ _ l0 false _ ?side1 ?side2 A2.out).mono ?_); (case side1 => exact cT HR0); (case side2 => exact HC0.out); rintro e w' ⟨rfl, ⟨nd, rfl⟩⟩; refine ⟨_, rfl, ?_⟩) | ((with_reducible refine gate_callee (f := 13) rfl ?_); refine goesL_ (some 24) rfl rfl Try.func13 (by kernel_rfl) rfl #[.slice A0 l0.length c0] rfl zG ?_; (with_reducible refine (spec_DrawAssignTag.calls k _ _ l0 t382 t383 _ ?side1 ?side2 A4.out).mono ?_); (case side1 => exact cT HR0); (case side2 => exact HC0.out); rintro e w7 ⟨v384, rfl, ho0, hb⟩; refine ⟨_, rfl, ?_⟩; have HO385 := Aside0.mk (Kd.R_lower ho0 (below_size (zB HB))); replace HB := bS HB hb; (try clear hb); (try clear ho0); obtain ⟨Ao8, co8, eo8⟩ := Kd.R_slice HO385.out; subst eo8) | ((with_reducible refine gate_callee (f := 8) rfl ?_); refine goesL_ (some 30) rfl rfl Try.func8 (by kernel_rfl) rfl #[.slice Ao8 t382.length co8, .int .i64 t383] rfl zG ?_; (with_reducible refine (impl_AssignTag.calls k _ _ t382 t383 t386 t387 t388 _ ?side1 ?side2 A5.out).mono ?_); (case side1 => repeat (first | exact (Kd.R_reads' HO385.out).2.2 | (with_reducible refine Kd.C_alloc ?_ _) | (with_reducible refine Kd.C_drewN ?_ _) | (with_reducible refine Kd.C_drew ?_))); (case side2 => exact (Kd.R_reads' HO385.out).2.1); rintro e w9 ⟨v389, rfl, ho0, hb⟩; refine ⟨_, rfl, ?_⟩; have HO390 := Aside0.mk (Kd.R_lower (Kd.R_new' ho0 (Kd.R_lt (zR HO385))) (below_size (zB HB))); replace HO385 := Aside0.mk (Kd.R_elder' (zR HO385) (Kd.R_base ho0) hb); replace HB := bS HB hb; (try clear hb); (try clear ho0)))
  (try simp only [Act.put, List.setIfInBounds_toArray, List.set_cons_zero, List.set_cons_succ])
  go_cut [] (fun wc => ∃ (kq : Nat), Aside0 (laws_FnRegistry.j3 kq l0 t382 = some r) ∧ Aside0 (kq ≤ k) ∧ Aside0 (Kd.R k43 43 wc w.heap.size (fun _ => True) (.slice Ao8 t382.length co8) t382) ∧ Aside0 (Below w.heap.size w wc))
  case first =>
   have H := HC6.out
   clear HC6
   by_cases c10 : t388 = true
   ·subst c10
    have H1 : ((impl_IsRegistry.f k t386).bind fun t391 => (if t391 = true then ((impl_OwnerOf.f t382 t387).bind fun t392 => (if t392 = (-1) then ((impl_OwnerOf.f t386 t387).bind fun t393 => (if t393 = t383 then ((impl_IsReserved.f t387).bind fun t394 => (if t394 = true then (laws_FnRegistry.j0 k l0 t382 t383 t386 t387 true) else (laws_FnRegistry.j0 k l0 t382 t383 t386 t387 ((t386.length : Int) != (wrap64 ((t382.length : Int) + 1)))))) else (laws_FnRegistry.j0 k l0 t382 t383 t386 t387 true))) else (laws_FnRegistry.j0 k l0 t382 t383 t386 t387 true))) else (laws_FnRegistry.j0 k l0 t382 t383 t386 t387 true))) = some r := by rw [if_pos rfl] at H; exact H
    clear H
    have H := H1
    clear H1
    have HC11 := Aside0.mk H
    clear H
    go_upto_region 6 with (fail)
    go_cut [62] (fun v62 wc => ∃ (kq : Nat) (x62_10 : Bool), v62 = .bool x62_10 ∧ Aside0 (laws_FnRegistry.j0 kq l0 t382 t383 t386 t387 x62_10 = some r) ∧ Aside0 (kq ≤ k) ∧ Aside0 (Kd.R k43 43 wc w.heap.size (fun k_ => some k_ ≠ (v389 : Value).ownBlock) (.slice Ao8 t382.length co8) t382) ∧ Aside0 (Kd.R k43 43 wc w.heap.size (fun k_ => some k_ ≠ ((.slice Ao8 t382.length co8) : Value).ownBlock) v389 t386) ∧ Aside0 (Below w.heap.size w wc))
    case first =>
     have H := HC11.out
     clear HC11
     obtain ⟨t391, A12, H⟩ := bindS H
     by_cases c13 : t391 = true
     ·subst c13
      have H1 : ((impl_OwnerOf.f t382 t387).bind fun t392 => (if t392 = (-1) then ((impl_OwnerOf.f t386 t387).bind fun t393 => (if t393 = t383 then ((impl_IsReserved.f t387).bind fun t394 => (if t394 = true then (laws_FnRegistry.j0 k l0 t382 t383 t386 t387 true) else (laws_FnRegistry.j0 k l0 t382 t383 t386 t387 ((t386.length : Int) != (wrap64 ((t382.length : Int) + 1)))))) else (laws_FnRegistry.j0 k l0 t382 t383 t386 t387 true))) else (laws_FnRegistry.j0 k l0 t382 t383 t386 t387 true))) = some r := by rw [if_pos rfl] at H; exact H
      clear H
      have H := H1
      clear H1
      obtain ⟨t392, A14, H⟩ := bindS H
      by_cases c15 : t392 = (-1)
      ·rw [if_pos c15] at H
       have c15b0 : (t392 == (-1)) = true := beq_iff_eq.mpr c15
       have c15b1 : (t392 != (-1)) = false := bne_eq_false_iff_eq.mpr c15
       clear c15
       (first | rw [c15b0] | (simp only [i64_w, i32_w]; rw [c15b0]) | skip)
       obtain ⟨t393, A16, H⟩ := bindS H
       by_cases c17 : t393 = t383
       ·rw [if_pos c17] at H
        have c17b0 : (t393 == t383) = true := beq_iff_eq.mpr c17
        have c17b1 : (t393 != t383) = false := bne_eq_false_iff_eq.mpr c17
        clear c17
        obtain ⟨t394, A18, H⟩ := bindS H
        by_cases c19 : t394 = true
        ·subst c19
         have H1 : (laws_FnRegistry.j0 k l0 t382 t383 t386 t387 true) = some r := by rw [if_pos rfl] at H; exact H
         clear H
         have H := H1
         clear H1
         have H' := Aside0.mk H
         clear H
         obtain ⟨Ao20, co20, eo20⟩ := Kd.R_slice HO390.out
         subst eo20
         go_wp2_with (first | ((with_reducible refine gate_callee (f := 14) rfl ?_); refine goesL_ (some 36) rfl rfl Try.func14 (by kernel_rfl) rfl #[.slice Ao20 t386.length co20] rfl zG ?_; (with_reducible refine (impl_IsRegistry.calls k _ _ t386 true _ ?side1 ?side2 A12.out).mono ?_); (case side1 => repeat (first | exact (Kd.R_reads' HO390.out).2.2 | (with_reducible refine Kd.C_alloc ?_ _) | (with_reducible refine Kd.C_drewN ?_ _) | (with_reducible refine Kd.C_drew ?_))); (case side2 => exact (Kd.R_reads' HO390.out).2.1); rintro e w21 ⟨rfl, hb⟩; refine ⟨_, rfl, ?_⟩; replace HO385 := Aside0.mk (Kd.R_below (zR HO385) hb); replace HO390 := Aside0.mk (Kd.R_below (zR HO390) hb); replace HB := bS HB hb; (try clear hb)) | (go_at_call 15; (with_reducible refine (impl_OwnerOf.calls _ _ t382 t387 t392 _ ?side1 ?side2 A14.out).mono ?_); (case side1 => repeat (first | exact (Kd.R_reads' HO385.out).2.2 | (with_reducible refine Kd.C_alloc ?_ _) | (with_reducible refine Kd.C_drewN ?_ _) | (with_reducible refine Kd.C_drew ?_))); (case side2 => exact (Kd.R_reads' HO385.out).2.1); rintro e w22 ⟨rfl, hb⟩; replace HO385 := Aside0.mk (Kd.R_below (zR HO385) hb); replace HO390 := Aside0.mk (Kd.R_below (zR HO390) hb); replace HB := bS HB hb; (try clear hb)) | (go_at_call 15; (with_reducible refine (impl_OwnerOf.calls _ _ t386 t387 t393 _ ?side1 ?side2 A16.out).mono ?_); (case side1 => repeat (first | exact (Kd.R_reads' HO390.out).2.2 | (with_reducible refine Kd.C_alloc ?_ _) | (with_reducible refine Kd.C_drewN ?_ _) | (with_reducible refine Kd.C_drew ?_))); (case side2 => exact (Kd.R_reads' HO390.out).2.1); rintro e w23 ⟨rfl, hb⟩; replace HO385 := Aside0.mk (Kd.R_below (zR HO385) hb); replace HO390 := Aside0.mk (Kd.R_below (zR HO390) hb); replace HB := bS HB hb; (try clear hb)) | (go_at_call 16; (with_reducible refine (impl_IsReserved.calls t387 true _ A18.out).mono ?_); rintro e w' ⟨rfl, ⟨nd, rfl⟩⟩))
         go_meet
         case rel => exact ⟨_, (true), zF, H', ⟨by first | omega | exact Nat.le_refl _⟩, ⟨by (with_reducible repeat (first | apply Kd.R_alloc | apply Kd.R_drewN | apply Kd.R_drew)); exact Kd.R_mono HO385.out (fun _ hk => hk.2)⟩, ⟨by (with_reducible repeat (first | apply Kd.R_alloc | apply Kd.R_drewN | apply Kd.R_drew)); exact Kd.R_mono HO390.out (fun _ hk => hk.2)⟩, ⟨zB HB⟩⟩
        ·replace c19 := Bool.eq_false_iff.mpr c19
         subst c19
         have H1 : (laws_FnRegistry.j0 k l0 t382 t383 t386 t387 ((t386.length : Int) != (wrap64 ((t382.length : Int) + 1)))) = some r := by rw [if_neg (show ¬ (false = true) by decide)] at H; exact H
         clear H
         have H := H1
         clear H1
         have H' := Aside0.mk H
         clear H
         obtain ⟨Ao24, co24, eo24⟩ := Kd.R_slice HO390.out
         subst eo24
         go_wp2_with (first | ((with_reducible refine gate_callee (f := 14) rfl ?_); refine goesL_ (some 36) rfl rfl Try.func14 (by kernel_rfl) rfl #[.slice Ao24 t386.length co24] rfl zG ?_; (with_reducible refine (impl_IsRegistry.calls k _ _ t386 true _ ?side1 ?side2 A12.out).mono ?_); (case side1 => repeat (first | exact (Kd.R_reads' HO390.out).2.2 | (with_reducible refine Kd.C_alloc ?_ _) | (with_reducible refine Kd.C_drewN ?_ _) | (with_reducible refine Kd.C_drew ?_))); (case side2 => exact (Kd.R_reads' HO390.out).2.1); rintro e w25 ⟨rfl, hb⟩; refine ⟨_, rfl, ?_⟩; replace HO385 := Aside0.mk (Kd.R_below (zR HO385) hb); replace HO390 := Aside0.mk (Kd.R_below (zR HO390) hb); replace HB := bS HB hb; (try clear hb)) | (go_at_call 15; (with_reducible refine (impl_OwnerOf.calls _ _ t382 t387 t392 _ ?side1 ?side2 A14.out).mono ?_); (case side1 => repeat (first | exact (Kd.R_reads' HO385.out).2.2 | (with_reducible refine Kd.C_alloc ?_ _) | (with_reducible refine Kd.C_drewN ?_ _) | (with_reducible refine Kd.C_drew ?_))); (case side2 => exact (Kd.R_reads' HO385.out).2.1); rintro e w26 ⟨rfl, hb⟩; replace HO385 := Aside0.mk (Kd.R_below (zR HO385) hb); replace HO390 := Aside0.mk (Kd.R_below (zR HO390) hb); replace HB := bS HB hb; (try clear hb)) | (go_at_call 15; (with_reducible refine (impl_OwnerOf.calls _ _ t386 t387 t393 _ ?side1 ?side2 A16.out).mono ?_); (case side1 => repeat (first | exact (Kd.R_reads' HO390.out).2.2 | (with_reducible refine Kd.C_alloc ?_ _) | (with_reducible refine Kd.C_drewN ?_ _) | (with_reducible refine Kd.C_drew ?_))); (case side2 => exact (Kd.R_reads' HO390.out).2.1); rintro e w27 ⟨rfl, hb⟩; replace HO385 := Aside0.mk (Kd.R_below (zR HO385) hb); replace HO390 := Aside0.mk (Kd.R_below (zR HO390) hb); replace HB := bS HB hb; (try clear hb)) | (go_at_call 16; (with_reducible refine (impl_IsReserved.calls t387 false _ A18.out).mono ?_); rintro e w' ⟨rfl, ⟨nd, rfl⟩⟩))
         go_meet
         case rel => exact ⟨_, (((t386.length : Int) != (wrap64 ((t382.length : Int) + 1)))), zF, H', ⟨by first | omega | exact Nat.le_refl _⟩, ⟨by (with_reducible repeat (first | apply Kd.R_alloc | apply Kd.R_drewN | apply Kd.R_drew)); exact Kd.R_mono HO385.out (fun _ hk => hk.2)⟩, ⟨by (with_reducible repeat (first | apply Kd.R_alloc | apply Kd.R_drewN | apply Kd.R_drew)); exact Kd.R_mono HO390.out (fun _ hk => hk.2)⟩, ⟨zB HB⟩⟩
       ·rw [if_neg c17] at H
        have c17b0 : (t393 == t383) = false := beq_eq_false_iff_ne.mpr c17
        have c17b1 : (t393 != t383) = true := bne_iff_ne.mpr c17
        have H' := Aside0.mk H
        clear H
        obtain ⟨Ao28, co28, eo28⟩ := Kd.R_slice HO390.out
        subst eo28
        go_wp2_with (first | ((with_reducible refine gate_callee (f := 14) rfl ?_); refine goesL_ (some 36) rfl rfl Try.func14 (by kernel_rfl) rfl #[.slice Ao28 t386.length co28] rfl zG ?_; (with_reducible refine (impl_IsRegistry.calls k _ _ t386 true _ ?side1 ?side2 A12.out).mono ?_); (case side1 => repeat (first | exact (Kd.R_reads' HO390.out).2.2 | (with_reducible refine Kd.C_alloc ?_ _) | (with_reducible refine Kd.C_drewN ?_ _) | (with_reducible refine Kd.C_drew ?_))); (case side2 => exact (Kd.R_reads' HO390.out).2.1); rintro e w29 ⟨rfl, hb⟩; refine ⟨_, rfl, ?_⟩; replace HO385 := Aside0.mk (Kd.R_below (zR HO385) hb); replace HO390 := Aside0.mk (Kd.R_below (zR HO390) hb); replace HB := bS HB hb; (try clear hb)) | (go_at_call 15; (with_reducible refine (impl_OwnerOf.calls _ _ t382 t387 t392 _ ?side1 ?side2 A14.out).mono ?_); (case side1 => repeat (first | exact (Kd.R_reads' HO385.out).2.2 | (with_reducible refine Kd.C_alloc ?_ _) | (with_reducible refine Kd.C_drewN ?_ _) | (with_reducible refine Kd.C_drew ?_))); (case side2 => exact (Kd.R_reads' HO385.out).2.1); rintro e w30 ⟨rfl, hb⟩; replace HO385 := Aside0.mk (Kd.R_below (zR HO385) hb); replace HO390 := Aside0.mk (Kd.R_below (zR HO390) hb); replace HB := bS HB hb; (try clear hb)) | (go_at_call 15; (with_reducible refine (impl_OwnerOf.calls _ _ t386 t387 t393 _ ?side1 ?side2 A16.out).mono ?_); (case side1 => repeat (first | exact (Kd.R_reads' HO390.out).2.2 | (with_reducible refine Kd.C_alloc ?_ _) | (with_reducible refine Kd.C_drewN ?_ _) | (with_reducible refine Kd.C_drew ?_))); (case side2 => exact (Kd.R_reads' HO390.out).2.1); rintro e w31 ⟨rfl, hb⟩; replace HO385 := Aside0.mk (Kd.R_below (zR HO385) hb); replace HO390 := Aside0.mk (Kd.R_below (zR HO390) hb); replace HB := bS HB hb; (try clear hb)))
        go_meet
        case rel => exact ⟨_, (true), zF, H', ⟨by first | omega | exact Nat.le_refl _⟩, ⟨by (with_reducible repeat (first | apply Kd.R_alloc | apply Kd.R_drewN | apply Kd.R_drew)); exact Kd.R_mono HO385.out (fun _ hk => hk.2)⟩, ⟨by (with_reducible repeat (first | apply Kd.R_alloc | apply Kd.R_drewN | apply Kd.R_drew)); exact Kd.R_mono HO390.out (fun _ hk => hk.2)⟩, ⟨zB HB⟩⟩
      ·rw [if_neg c15] at H
       have c15b0 : (t392 == (-1)) = false := beq_eq_false_iff_ne.mpr c15
       have c15b1 : (t392 != (-1)) = true := bne_iff_ne.mpr c15
       (first | rw [c15b0] | (simp only [i64_w, i32_w]; rw [c15b0]) | skip)
       have H' := Aside0.mk H
       clear H
       obtain ⟨Ao32, co32, eo32⟩ := Kd.R_slice HO390.out
       subst eo32
       go_wp2_with (first | ((with_reducible refine gate_callee (f := 14) rfl ?_); refine goesL_ (some 36) rfl rfl Try.func14 (by kernel_rfl) rfl #[.slice Ao32 t386.length co32] rfl zG ?_; (with_reducible refine (impl_IsRegistry.calls k _ _ t386 true _ ?side1 ?side2 A12.out).mono ?_); (case side1 => repeat (first | exact (Kd.R_reads' HO390.out).2.2 | (with_reducible refine Kd.C_alloc ?_ _) | (with_reducible refine Kd.C_drewN ?_ _) | (with_reducible refine Kd.C_drew ?_))); (case side2 => exact (Kd.R_reads' HO390.out).2.1); rintro e w33 ⟨rfl, hb⟩; refine ⟨_, rfl, ?_⟩; replace HO385 := Aside0.mk (Kd.R_below (zR HO385) hb); replace HO390 := Aside0.mk (Kd.R_below (zR HO390) hb); replace HB := bS HB hb; (try clear hb)) | (go_at_call 15; (with_reducible refine (impl_OwnerOf.calls _ _ t382 t387 t392 _ ?side1 ?side2 A14.out).mono ?_); (case side1 => repeat (first | exact (Kd.R_reads' HO385.out).2.2 | (with_reducible refine Kd.C_alloc ?_ _) | (with_reducible refine Kd.C_drewN ?_ _) | (with_reducible refine Kd.C_drew ?_))); (case side2 => exact (Kd.R_reads' HO385.out).2.1); rintro e w34 ⟨rfl, hb⟩; replace HO385 := Aside0.mk (Kd.R_below (zR HO385) hb); replace HO390 := Aside0.mk (Kd.R_below (zR HO390) hb); replace HB := bS HB hb; (try clear hb)))
       go_meet
       case rel => exact ⟨_, (true), zF, H', ⟨by first | omega | exact Nat.le_refl _⟩, ⟨by (with_reducible repeat (first | apply Kd.R_alloc | apply Kd.R_drewN | apply Kd.R_drew)); exact Kd.R_mono HO385.out (fun _ hk => hk.2)⟩, ⟨by (with_reducible repeat (first | apply Kd.R_alloc | apply Kd.R_drewN | apply Kd.R_drew)); exact Kd.R_mono HO390.out (fun _ hk => hk.2)⟩, ⟨zB HB⟩⟩
     ·replace c13 := Bool.eq_false_iff.mpr c13
      subst c13
      have H1 : (laws_FnRegistry.j0 k l0 t382 t383 t386 t387 true) = some r := by rw [if_neg (show ¬ (false = true) by decide)] at H; exact H
      clear H
      have H := H1
      clear H1
      have H' := Aside0.mk H
      clear H
      obtain ⟨Ao35, co35, eo35⟩ := Kd.R_slice HO390.out
      subst eo35
      go_wp2_with (first | ((with_reducible refine gate_callee (f := 14) rfl ?_); refine goesL_ (some 36) rfl rfl Try.func14 (by kernel_rfl) rfl #[.slice Ao35 t386.length co35] rfl zG ?_; (with_reducible refine (impl_IsRegistry.calls k _ _ t386 false _ ?side1 ?side2 A12.out).mono ?_); (case side1 => repeat (first | exact (Kd.R_reads' HO390.out).2.2 | (with_reducible refine Kd.C_alloc ?_ _) | (with_reducible refine Kd.C_drewN ?_ _) | (with_reducible refine Kd.C_drew ?_))); (case side2 => exact (Kd.R_reads' HO390.out).2.1); rintro e w36 ⟨rfl, hb⟩; refine ⟨_, rfl, ?_⟩; replace HO385 := Aside0.mk (Kd.R_below (zR HO385) hb); replace HO390 := Aside0.mk (Kd.R_below (zR HO390) hb); replace HB := bS HB hb; (try clear hb)))
      go_meet
      case rel => exact ⟨_, (true), zF, H', ⟨by first | omega | exact Nat.le_refl _⟩, ⟨by (with_reducible repeat (first | apply Kd.R_alloc | apply Kd.R_drewN | apply Kd.R_drew)); exact Kd.R_mono HO385.out (fun _ hk => hk.2)⟩, ⟨by (with_reducible repeat (first | apply Kd.R_alloc | apply Kd.R_drewN | apply Kd.R_drew)); exact Kd.R_mono HO390.out (fun _ hk => hk.2)⟩, ⟨zB HB⟩⟩
    case rest =>
     clear HC11
     try clear c1
     try clear p2
     try clear c3
     try clear c4
     try clear p6
     try clear c8
     try clear c10
     try clear c12
     try clear c13
     try clear c14
     try clear c15
     try clear c15b0
     try clear c15b1
     try clear c17
     try clear c17b0
     try clear c17b1
     try clear c19
     obtain ⟨kq, x62_10, rfl, HA, HJ10, HO_3, HO_5, HB⟩ := hcut
     cases kq with
     | zero => exact absurd HA.out (by simp [laws_FnRegistry.j0])
     | succ kj10 =>
      have H := HA.out
      clear HA
      simp only [laws_FnRegistry.j0] at H
      by_cases c37 : x62_10 = true
      ·subst c37
       have H1 : (some false) = some r := by rw [if_pos rfl] at H; exact H
       clear H
       have H := H1
       clear H1
       obtain rfl := Option.some.inj H
       go_wp2
       go_ret
       exact ⟨zE, zB HB⟩
      ·replace c37 := Bool.eq_false_iff.mpr c37
       subst c37
       have H1 : ((impl_RetireTag.f kj10 t386 t387).bind fun bt395 => ((impl_AssignTag.f kj10 bt395.1 t383).bind fun bt399 => (if bt395.2 = true then ((impl_LiveTags.f kj10 bt395.1).bind fun t404 => ((laws_contains.f kj10 t404 t387).bind fun t407 => (if t407 = true then (laws_FnRegistry.j1 kj10 l0 t382 t386 true) else (if bt399.2.2 = true then (laws_FnRegistry.j1 kj10 l0 t382 t386 (bt399.2.1 == t387)) else (laws_FnRegistry.j1 kj10 l0 t382 t386 false))))) else (laws_FnRegistry.j1 kj10 l0 t382 t386 true)))) = some r := by rw [if_neg (show ¬ (false = true) by decide)] at H; exact H
       clear H
       have H := H1
       clear H1
       replace H := Option.bind_eq_some_iff.mp H
       obtain ⟨⟨t395, t396⟩, A380, H⟩ := H
       replace H : ((impl_AssignTag.f kj10 t395 t383).bind fun bt399 => (if t396 = true then ((impl_LiveTags.f kj10 t395).bind fun t404 => ((laws_contains.f kj10 t404 t387).bind fun t407 => (if t407 = true then (laws_FnRegistry.j1 kj10 l0 t382 t386 true) else (if bt399.2.2 = true then (laws_FnRegistry.j1 kj10 l0 t382 t386 (bt399.2.1 == t387)) else (laws_FnRegistry.j1 kj10 l0 t382 t386 false))))) else (laws_FnRegistry.j1 kj10 l0 t382 t386 true))) = some r := H
       have A38 := Aside0.mk A380
       clear A380
       replace H := Option.bind_eq_some_iff.mp H
       obtain ⟨⟨t399, t400, t401⟩, A390, H⟩ := H
       replace H : (if t396 = true then ((impl_LiveTags.f kj10 t395).bind fun t404 => ((laws_contains.f kj10 t404 t387).bind fun t407 => (if t407 = true then (laws_FnRegistry.j1 kj10 l0 t382 t386 true) else (if t401 = true then (laws_FnRegistry.j1 kj10 l0 t382 t386 (t400 == t387)) else (laws_FnRegistry.j1 kj10 l0 t382 t386 false))))) else (laws_FnRegistry.j1 kj10 l0 t382 t386 true)) = some r := H
       have A39 := Aside0.mk A390
       clear A390
       have HC40 := Aside0.mk H
       clear H
       obtain ⟨Ao41, co41, eo41⟩ := Kd.R_slice HO_5.out
       subst eo41
       go_upto_region 10 with (first | ((with_reducible refine gate_callee (f := 17) rfl ?_); refine goesL_ (some 66) rfl rfl Try.func17 (by kernel_rfl) rfl #[.slice Ao41 t386.length co41, .int .i64 t387] rfl zG ?_; (with_reducible refine (impl_RetireTag.calls kj10 _ _ t386 t387 t395 t396 _ ?side1 ?side2 A38.out).mono ?_); (case side1 => repeat (first | exact (Kd.R_reads' HO_5.out).2.2 | (with_reducible refine Kd.C_alloc ?_ _) | (with_reducible refine Kd.C_drewN ?_ _) | (with_reducible refine Kd.C_drew ?_))); (case side2 => exact (Kd.R_reads' HO_5.out).2.1); rintro e w42 ⟨v397, rfl, ho0, hb⟩; refine ⟨_, rfl, ?_⟩; have HO398 := Aside0.mk (Kd.R_lower (Kd.R_new' (Kd.R_new' ho0 (Kd.R_lt (zR HO_3))) (Kd.R_lt (zR HO_5))) (below_size (zB HB))); replace HO_3 := Aside0.mk (Kd.R_elder' (zR HO_3) (Kd.R_base ho0) hb); replace HO_5 := Aside0.mk (Kd.R_elder' (zR HO_5) (Kd.R_base ho0) hb); replace HB := bS HB hb; (try clear hb); (try clear ho0); obtain ⟨Ao43, co43, eo43⟩ := Kd.R_slice HO398.out; subst eo43) | ((with_reducible refine gate_callee (f := 8) rfl ?_); refine goesL_ (some 72) rfl rfl Try.func8 (by kernel_rfl) rfl #[.slice Ao43 t395.length co43, .int .i64 t383] rfl zG ?_; (with_reducible refine (impl_AssignTag.calls kj10 _ _ t395 t383 t399 t400 t401 _ ?side1 ?side2 A39.out).mono ?_); (case side1 => repeat (first | exact (Kd.R_reads' HO398.out).2.2 | (with_reducible refine Kd.C_alloc ?_ _) | (with_reducible refine Kd.C_drewN ?_ _) | (with_reducible refine Kd.C_drew ?_))); (case side2 => exact (Kd.R_reads' HO398.out).2.1); rintro e w44 ⟨v402, rfl, ho0, hb⟩; refine ⟨_, rfl, ?_⟩; have HO403 := Aside0.mk (Kd.R_lower (Kd.R_new' (Kd.R_new' (Kd.R_new' ho0 (Kd.R_lt (zR HO_3))) (Kd.R_lt (zR HO_5))) (Kd.R_lt (zR HO398))) (below_size (zB HB))); replace HO_3 := Aside0.mk (Kd.R_elder' (zR HO_3) (Kd.R_base ho0) hb); replace HO_5 := Aside0.mk (Kd.R_elder' (zR HO_5) (Kd.R_base ho0) hb); replace HO398 := Aside0.mk (Kd.R_elder' (zR HO398) (Kd.R_base ho0) hb); replace HB := bS HB hb; (try clear hb); (try clear ho0)))
       (try simp only [Act.put, List.setIfInBounds_toArray, List.set_cons_zero, List.set_cons_succ])
       go_cut [91] (fun v91 wc => ∃ (kq : Nat) (x91_39 : Bool), v91 = .bool x91_39 ∧ Aside0 (laws_FnRegistry.j1 kq l0 t382 t386 x91_39 = some r) ∧ Aside0 (kq ≤ kj10) ∧ Aside0 (Kd.R k43 43 wc w.heap.size (fun k_ => some k_ ≠ ((.slice Ao41 t386.length co41) : Value).ownBlock) (.slice Ao8 t382.length co8) t382) ∧ Aside0 (Kd.R k43 43 wc w.heap.size (fun k_ => some k_ ≠ ((.slice Ao8 t382.length co8) : Value).ownBlock) (.slice Ao41 t386.length co41) t386) ∧ Aside0 (Below w.heap.size w wc))
       case first =>
        have H := HC40.out
        clear HC40
        by_cases c45 : t396 = true
        ·subst c45
         have H1 : ((impl_LiveTags.f kj10 t395).bind fun t404 => ((laws_contains.f kj10 t404 t387).bind fun t407 => (if t407 = true then (laws_FnRegistry.j1 kj10 l0 t382 t386 true) else (if t401 = true then (laws_FnRegistry.j1 kj10 l0 t382 t386 (t400 == t387)) else (laws_FnRegistry.j1 kj10 l0 t382 t386 false))))) = some r := by rw [if_pos rfl] at H; exact H
         clear H
         have H := H1
         clear H1
         obtain ⟨t404, A46, H⟩ := bindS H
         obtain ⟨t407, A47, H⟩ := bindS H
         by_cases c48 : t407 = true
         ·subst c48
          have H1 : (laws_FnRegistry.j1 kj10 l0 t382 t386 true) = some r := by rw [if_pos rfl] at H; exact H
          clear H
          have H := H1
          clear H1
          have H' := Aside0.mk H
          clear H
          go_wp2_with (first | (go_at_call 19; (with_reducible refine (impl_LiveTags.calls kj10 _ _ t395 t404 _ ?side1 ?side2 A46.out).mono ?_); (case side1 => repeat (first | exact (Kd.R_reads' HO398.out).2.2 | (with_reducible refine Kd.C_alloc ?_ _) | (with_reducible refine Kd.C_drewN ?_ _) | (with_reducible refine Kd.C_drew ?_))); (case side2 => exact (Kd.R_reads' HO398.out).2.1); rintro e w49 ⟨v405, rfl, ho0, hb⟩; replace HO_3 := Aside0.mk (Kd.R_below (zR HO_3) hb); replace HO_5 := Aside0.mk (Kd.R_below (zR HO_5) hb); replace HO398 := Aside0.mk (Kd.R_below (zR HO398) hb); replace HO403 := Aside0.mk (Kd.R_below (zR HO403) hb); have HO406 := Aside0.mk (Kd.R_lower ho0 (below_size (zB HB))); replace HB := bS HB hb; (try clear hb); (try clear ho0); obtain ⟨Ao50, co50, eo50⟩ := Kd.R_slice HO406.out; subst eo50) | (go_at_call 18; (with_reducible refine (laws_contains.calls kj10 _ _ t404 t387 true _ ?side1 ?side2 A47.out).mono ?_); (case side1 => repeat (first | exact (Kd.R_reads' HO406.out).2.2 | (with_reducible refine Kd.C_alloc ?_ _) | (with_reducible refine Kd.C_drewN ?_ _) | (with_reducible refine Kd.C_drew ?_))); (case side2 => exact (Kd.R_reads' HO406.out).2.1); rintro e w' ⟨rfl, ⟨nd, rfl⟩⟩))
          go_meet
          case rel => exact ⟨_, (true), zF, H', ⟨by have := HJ10.out; first | omega | exact Nat.le_refl _⟩, ⟨by (with_reducible repeat (first | apply Kd.R_alloc | apply Kd.R_drewN | apply Kd.R_drew)); exact Kd.R_mono HO_3.out (fun _ hk => hk.1.1)⟩, ⟨by (with_reducible repeat (first | apply Kd.R_alloc | apply Kd.R_drewN | apply Kd.R_drew)); exact Kd.R_mono HO_5.out (fun _ hk => hk.1.1)⟩, ⟨zB HB⟩⟩
         ·replace c48 := Bool.eq_false_iff.mpr c48
          subst c48
          have H1 : (if t401 = true then (laws_FnRegistry.j1 kj10 l0 t382 t386 (t400 == t387)) else (laws_FnRegistry.j1 kj10 l0 t382 t386 false)) = some r := by rw [if_neg (show ¬ (false = true) by decide)] at H; exact H
          clear H
          have H := H1
          clear H1
          by_cases c51 : t401 = true
          ·subst c51
           have H1 : (laws_FnRegistry.j1 kj10 l0 t382 t386 (t400 == t387)) = some r := by rw [if_pos rfl] at H; exact H
           clear H
           have H := H1
           clear H1
           have H' := Aside0.mk H
           clear H
           go_wp2_with (first | (go_at_call 19; (with_reducible refine (impl_LiveTags.calls kj10 _ _ t395 t404 _ ?side1 ?side2 A46.out).mono ?_); (case side1 => repeat (first | exact (Kd.R_reads' HO398.out).2.2 | (with_reducible refine Kd.C_alloc ?_ _) | (with_reducible refine Kd.C_drewN ?_ _) | (with_reducible refine Kd.C_drew ?_))); (case side2 => exact (Kd.R_reads' HO398.out).2.1); rintro e w52 ⟨v405, rfl, ho0, hb⟩; replace HO_3 := Aside0.mk (Kd.R_below (zR HO_3) hb); replace HO_5 := Aside0.mk (Kd.R_below (zR HO_5) hb); replace HO398 := Aside0.mk (Kd.R_below (zR HO398) hb); replace HO403 := Aside0.mk (Kd.R_below (zR HO403) hb); have HO406 := Aside0.mk (Kd.R_lower ho0 (below_size (zB HB))); replace HB := bS HB hb; (try clear hb); (try clear ho0); obtain ⟨Ao53, co53, eo53⟩ := Kd.R_slice HO406.out; subst eo53) | (go_at_call 18; (with_reducible refine (laws_contains.calls kj10 _ _ t404 t387 false _ ?side1 ?side2 A47.out).mono ?_); (case side1 => repeat (first | exact (Kd.R_reads' HO406.out).2.2 | (with_reducible refine Kd.C_alloc ?_ _) | (with_reducible refine Kd.C_drewN ?_ _) | (with_reducible refine Kd.C_drew ?_))); (case side2 => exact (Kd.R_reads' HO406.out).2.1); rintro e w' ⟨rfl, ⟨nd, rfl⟩⟩))
           go_meet
           case rel => exact ⟨_, ((t400 == t387)), zF, H', ⟨by have := HJ10.out; first | omega | exact Nat.le_refl _⟩, ⟨by (with_reducible repeat (first | apply Kd.R_alloc | apply Kd.R_drewN | apply Kd.R_drew)); exact Kd.R_mono HO_3.out (fun _ hk => hk.1.1)⟩, ⟨by (with_reducible repeat (first | apply Kd.R_alloc | apply Kd.R_drewN | apply Kd.R_drew)); exact Kd.R_mono HO_5.out (fun _ hk => hk.1.1)⟩, ⟨zB HB⟩⟩
          ·replace c51 := Bool.eq_false_iff.mpr c51
           subst c51
           have H1 : (laws_FnRegistry.j1 kj10 l0 t382 t386 false) = some r := by rw [if_neg (show ¬ (false = true) by decide)] at H; exact H
           clear H
           have H := H1
           clear H1
           have H' := Aside0.mk H
           clear H
           go_wp2_with (first | (go_at_call 19; (with_reducible refine (impl_LiveTags.calls kj10 _ _ t395 t404 _ ?side1 ?side2 A46.out).mono ?_); (case side1 => repeat (first | exact (Kd.R_reads' HO398.out).2.2 | (with_reducible refine Kd.C_alloc ?_ _) | (with_reducible refine Kd.C_drewN ?_ _) | (with_reducible refine Kd.C_drew ?_))); (case side2 => exact (Kd.R_reads' HO398.out).2.1); rintro e w54 ⟨v405, rfl, ho0, hb⟩; replace HO_3 := Aside0.mk (Kd.R_below (zR HO_3) hb); replace HO_5 := Aside0.mk (Kd.R_below (zR HO_5) hb); replace HO398 := Aside0.mk (Kd.R_below (zR HO398) hb); replace HO403 := Aside0.mk (Kd.R_below (zR HO403) hb); have HO406 := Aside0.mk (Kd.R_lower ho0 (below_size (zB HB))); replace HB := bS HB hb; (try clear hb); (try clear ho0); obtain ⟨Ao55, co55, eo55⟩ := Kd.R_slice HO406.out; subst eo55) | (go_at_call 18; (with_reducible refine (laws_contains.calls kj10 _ _ t404 t387 false _ ?side1 ?side2 A47.out).mono ?_); (case side1 => repeat (first | exact (Kd.R_reads' HO406.out).2.2 | (with_reducible refine Kd.C_alloc ?_ _) | (with_reducible refine Kd.C_drewN ?_ _) | (with_reducible refine Kd.C_drew ?_))); (case side2 => exact (Kd.R_reads' HO406.out).2.1); rintro e w' ⟨rfl, ⟨nd, rfl⟩⟩))
           go_meet
           case rel => exact ⟨_, (false), zF, H', ⟨by have := HJ10.out; first | omega | exact Nat.le_refl _⟩, ⟨by (with_reducible repeat (first | apply Kd.R_alloc | apply Kd.R_drewN | apply Kd.R_drew)); exact Kd.R_mono HO_3.out (fun _ hk => hk.1.1)⟩, ⟨by (with_reducible repeat (first | apply Kd.R_alloc | apply Kd.R_drewN | apply Kd.R_drew)); exact Kd.R_mono HO_5.out (fun _ hk => hk.1.1)⟩, ⟨zB HB⟩⟩
        ·replace c45 := Bool.eq_false_iff.mpr c45
         subst c45
         have H1 : (laws_FnRegistry.j1 kj10 l0 t382 t386 true) = some r := by rw [if_neg (show ¬ (false = true) by decide)] at H; exact H
         clear H
         have H := H1
         clear H1
         have H' := Aside0.mk H
         clear H
         go_wp2
         go_meet
         case rel => exact ⟨_, (true), zF, H', ⟨by have := HJ10.out; first | omega | exact Nat.le_refl _⟩, ⟨by (with_reducible repeat (first | apply Kd.R_alloc | apply Kd.R_drewN | apply Kd.R_drew)); exact Kd.R_mono HO_3.out (fun _ hk => hk.1.1)⟩, ⟨by (with_reducible repeat (first | apply Kd.R_alloc | apply Kd.R_drewN | apply Kd.R_drew)); exact Kd.R_mono HO_5.out (fun _ hk => hk.1.1)⟩, ⟨zB HB⟩⟩
       case rest =>
        clear HC40
        try clear c1
        try clear p2
        try clear c3
        try clear c4
        try clear c5
        try clear p6
        try clear c8
        try clear c10
        try clear c12
        try clear c13
        try clear c14
        try clear c15
        try clear c15b0
        try clear c15b1
        try clear c17
        try clear c17b0
        try clear c17b1
        try clear c19
        try clear c37
        try clear c45
        try clear c48
        try clear c51
        try clear p2
        try clear p6
        obtain ⟨kq, x91_39, rfl, HA, HJ39, HO_3, HO_5, HB⟩ := hcut
        cases kq with
        | zero => exact absurd HA.out (by simp [laws_FnRegistry.j1])
        | succ kj39 =>
         have H := HA.out
         clear HA
         simp only [laws_FnRegistry.j1] at H
         by_cases c56 : x91_39 = true
         ·subst c56
          have H1 : (some false) = some r := by rw [if_pos rfl] at H; exact H
          clear H
          have H := H1
          clear H1
          obtain rfl := Option.some.inj H
          go_wp2
          go_ret
          exact ⟨zE, zB HB⟩
         ·replace c56 := Bool.eq_false_iff.mpr c56
          subst c56
          have H1 : (laws_FnRegistry.l0 kj39 l0 t382 t386 0) = some r := by rw [if_neg (show ¬ (false = true) by decide)] at H; exact H
          clear H
          have H := H1
          clear H1
          have H' := Aside0.mk H
          clear H
          go_wp2
          go_loopg [13] kj39 (fun kq v13 w' => ∃ (x13_3 : Int), v13 = .int .i64 x13_3 ∧ Aside0 (laws_FnRegistry.l0 kq l0 t382 t386 x13_3 = some r) ∧ Aside0 (kq ≤ kj39) ∧ Aside0 (Kd.R k43 43 w' w.heap.size (fun k_ => some k_ ≠ ((.slice Ao41 t386.length co41) : Value).ownBlock) (.slice Ao8 t382.length co8) t382) ∧ Aside0 (Kd.R k43 43 w' w.heap.size (fun k_ => some k_ ≠ ((.slice Ao8 t382.length co8) : Value).ownBlock) (.slice Ao41 t386.length co41) t386) ∧ Aside0 (Below w.heap.size w w'))
          case atStart => exact ⟨(0), zF, H', ⟨Nat.le_refl _⟩, ⟨zR HO_3⟩, ⟨zR HO_5⟩, ⟨zB HB⟩⟩
          case round =>
           clear H'
           try clear c1
           try clear p2
           try clear c3
           try clear c4
           try clear c5
           try clear p6
           try clear c8
           try clear c10
           try clear c12
           try clear c13
           try clear c14
           try clear c15
           try clear c15b0
           try clear c15b1
           try clear c17
           try clear c17b0
           try clear c17b1
           try clear c19
           try clear c37
           try clear c45
           try clear c48
           try clear c51
           try clear c56
           try clear p2
           try clear p6
           obtain ⟨x13_3, rfl, HA, HK3, HO_3, HO_5, HB⟩ := hrel
           cases gk with
           | zero => exact absurd HA.out (by simp [laws_FnRegistry.l0])
           | succ k3 =>
            have H := HA.out
            clear HA
            simp only [laws_FnRegistry.l0] at H
            by_cases c57 : x13_3 < (t382.length : Int)
            ·rw [if_pos c57] at H
             have c57b0 : decide (x13_3 < (t382.length : Int)) = true := decide_eq_true c57
             clear c57
             obtain ⟨c58, H⟩ := ifS H
             have c58b0 : decide (0 ≤ x13_3) = true := decide_eq_true c58
             clear c58
             obtain ⟨t409, A59, H⟩ := bindS H
             by_cases c60 : t409 = ((rd_T43 t382 x13_3).f1)
             ·rw [if_pos c60] at H
              have c60b0 : (t409 == ((rd_T43 t382 x13_3).f1)) = true := beq_iff_eq.mpr c60
              have c60b1 : (t409 != ((rd_T43 t382 x13_3).f1)) = false := bne_eq_false_iff_eq.mpr c60
              clear c60
              have H' := Aside0.mk H
              clear H
              try go_wp2
              replace HO_3 := Aside0.mk (Kd.R_drew HO_3.out)
              replace HO_5 := Aside0.mk (Kd.R_drew HO_5.out)
              replace HB := Aside0.mk (below_drew1 HB.out)
              have p408 : 0 ≤ (x13_3 : Int) := zD
              have q408 : x13_3 < (t382.length : Int) := zD
              obtain ⟨ad408, e408, hx408_0, hx408_1, hx408_2⟩ := at_T43 (Kd.R_reads' HO_3.out).2.2 x13_3 p408 q408
              cases e408
              replace p408 := eq_true p408
              replace q408 := eq_true q408
              have p410 : 0 ≤ (x13_3 : Int) := zD
              have q410 : x13_3 < (t382.length : Int) := zD
              obtain ⟨ad410, e410, hx410_0, hx410_1, hx410_2⟩ := at_T43 (Kd.R_reads' HO_3.out).2.2 x13_3 p410 q410
              obtain rfl : ad408 = ad410 := (by injection e410)
              replace p410 := eq_true p410
              replace q410 := eq_true q410
              refine start_ (n := 13) (S := fun w' => w'.cell? (ad408.add ((x13_3).toNat * 3)) = some (.int .i64 ((rd_T43 t382 x13_3).f0)) ∧ w'.cell? ⟨(ad408.add ((x13_3).toNat * 3)).block, (ad408.add ((x13_3).toNat * 3)).off + 1, none⟩ = some (.int .i64 ((rd_T43 t382 x13_3).f1)) ∧ w'.cell? ⟨(ad408.add ((x13_3).toNat * 3)).block, (ad408.add ((x13_3).toNat * 3)).off + 2, none⟩ = some (.bool ((rd_T43 t382 x13_3).f2)) ∧ w'.cell? (ad408.add ((x13_3).toNat * 3)) = some (.int .i64 ((rd_T43 t382 x13_3).f0)) ∧ w'.cell? ⟨(ad408.add ((x13_3).toNat * 3)).block, (ad408.add ((x13_3).toNat * 3)).off + 1, none⟩ = some (.int .i64 ((rd_T43 t382 x13_3).f1)) ∧ w'.cell? ⟨(ad408.add ((x13_3).toNat * 3)).block, (ad408.add ((x13_3).toNat * 3)).off + 2, none⟩ = some (.bool ((rd_T43 t382 x13_3).f2))) (ds := []) (bm 13 0) (by kernel_rfl) rfl (bm0 _) ⟨hx408_0, hx408_1, hx408_2, hx410_0, hx410_1, hx410_2⟩ (fun hHeld => ?_); refine with_tabW laws_FnRegistry.tab15 laws_FnRegistry.bits15 (fun HT_ HW_ => ?_)
              generalize wr.drew = w61 at HO_3 HO_5 HB hx408_0 hx408_1 hx408_2 hx410_0 hx410_1 hx410_2 hHeld ⊢
              refine pU 0 (some 98) (bm 13 1) HT_ rfl rfl ?_
              refine pU 1 (some 99) (bm 13 3) HT_ rfl rfl ?_
              refine pU 2 (some 100) (bm 13 7) HT_ rfl rfl ?_
              refine pU 3 (some 101) (bm 13 15) HT_ rfl rfl ?_
              refine pU 4 (some 102) (bm 13 31) HT_ rfl rfl ?_
              refine pU 7 (some 105) (bm 13 159) HT_ rfl rfl ?_
              refine pU 8 (some 106) (bm 13 415) HT_ rfl rfl ?_
              refine pU 9 (some 107) (bm 13 927) HT_ rfl rfl ?_
              refine pU 10 (some 108) (bm 13 1951) HT_ rfl rfl ?_
              refine tU 5 (some 103) (bm 13 1983) HT_ HW_ rfl rfl hHeld ?_
              refine tU 11 (some 109) (bm 13 4031) HT_ HW_ rfl rfl hHeld ?_
              refine one_ (i := 6) (N := some 104) (bm 13 4095) rfl rfl (one_of HT_.out (by kernel_rfl)) (by decide) (fun K hK => ?_)
              refine goes_ Try.func15 (by kernel_rfl) rfl #[.slice Ao41 t386.length co41, .int .i64 ((rd_T43 t382 x13_3).f0)] (by rfl) rfl rfl zG ?_
              with_reducible refine (impl_OwnerOf.calls _ _ t386 ((rd_T43 t382 x13_3).f0) t409 _ ?side1 ?side2 A59.out).mono ?_
              (case side1 => repeat (first | exact (Kd.R_reads' HO_5.out).2.2 | (with_reducible refine Kd.C_alloc ?_ _) | (with_reducible refine Kd.C_drewN ?_ _) | (with_reducible refine Kd.C_drew ?_)))
              (case side2 => exact (Kd.R_reads' HO_5.out).2.1)
              rintro e w62 ⟨rfl, hb⟩
              have HS0_ := (hb.cell (World.block_lt_of_cell? _ _ (hHeld.1))).trans (hHeld.1)
              have HS1_ := (hb.cell (World.block_lt_of_cell? _ _ (hHeld.2.1))).trans (hHeld.2.1)
              have HS2_ := (hb.cell (World.block_lt_of_cell? _ _ (hHeld.2.2.1))).trans (hHeld.2.2.1)
              have HS3_ := (hb.cell (World.block_lt_of_cell? _ _ (hHeld.2.2.2.1))).trans (hHeld.2.2.2.1)
              have HS4_ := (hb.cell (World.block_lt_of_cell? _ _ (hHeld.2.2.2.2.1))).trans (hHeld.2.2.2.2.1)
              have HS5_ := (hb.cell (World.block_lt_of_cell? _ _ (hHeld.2.2.2.2.2))).trans (hHeld.2.2.2.2.2)
              refine ⟨_, rfl, ?_⟩
              replace HO_3 := Aside0.mk (Kd.R_below (zR HO_3) hb)
              replace HO_5 := Aside0.mk (Kd.R_below (zR HO_5) hb)
              replace HB := bS HB hb
              (try clear hb)
              (try clear hb2)
              (try clear hk)
              (try clear hi)
              refine hK.out _ _ ⟨HS0_, HS1_, HS2_, HS3_, HS4_, HS5_⟩ (fun hHeld => ?_)
              clear hK K
              refine norm_ (a' := ?_) ?_ ?_
              rotate_left
              ·show Act.put _ (some 104) _ = _
               simp only [Act.put, List.setIfInBounds_toArray, List.set_cons_zero, List.set_cons_succ, i64_w, i32_w]
               rfl
              refine pU 12 (some 110) (bm 13 8191) HT_ rfl rfl ?_
              refine done_ (done_of HT_.out (by kernel_rfl)) ?_
              try clear hHeld
              try go_wp2
              go_roundg k3
              case measure => have := HJ10.out; have := HJ39.out; have := HK3.out; omega
              case rel => exact ⟨(wrap64 (x13_3 + 1)), zF, H', ⟨by have := HJ10.out; have := HJ39.out; have := HK3.out; omega⟩, ⟨zR HO_3⟩, ⟨zR HO_5⟩, ⟨zB HB⟩⟩
             ·rw [if_neg c60] at H
              have c60b0 : (t409 == ((rd_T43 t382 x13_3).f1)) = false := beq_eq_false_iff_ne.mpr c60
              have c60b1 : (t409 != ((rd_T43 t382 x13_3).f1)) = true := bne_iff_ne.mpr c60
              obtain rfl := Option.some.inj H
              try go_wp2
              replace HO_3 := Aside0.mk (Kd.R_drew HO_3.out)
              replace HO_5 := Aside0.mk (Kd.R_drew HO_5.out)
              replace HB := Aside0.mk (below_drew1 HB.out)
              have p408 : 0 ≤ (x13_3 : Int) := zD
              have q408 : x13_3 < (t382.length : Int) := zD
              obtain ⟨ad408, e408, hx408_0, hx408_1, hx408_2⟩ := at_T43 (Kd.R_reads' HO_3.out).2.2 x13_3 p408 q408
              cases e408
              replace p408 := eq_true p408
              replace q408 := eq_true q408
              have p410 : 0 ≤ (x13_3 : Int) := zD
              have q410 : x13_3 < (t382.length : Int) := zD
              obtain ⟨ad410, e410, hx410_0, hx410_1, hx410_2⟩ := at_T43 (Kd.R_reads' HO_3.out).2.2 x13_3 p410 q410
              obtain rfl : ad408 = ad410 := (by injection e410)
              replace p410 := eq_true p410
              replace q410 := eq_true q410
              refine start_ (n := 13) (S := fun w' => w'.cell? (ad408.add ((x13_3).toNat * 3)) = some (.int .i64 ((rd_T43 t382 x13_3).f0)) ∧ w'.cell? ⟨(ad408.add ((x13_3).toNat * 3)).block, (ad408.add ((x13_3).toNat * 3)).off + 1, none⟩ = some (.int .i64 ((rd_T43 t382 x13_3).f1)) ∧ w'.cell? ⟨(ad408.add ((x13_3).toNat * 3)).block, (ad408.add ((x13_3).toNat * 3)).off + 2, none⟩ = some (.bool ((rd_T43 t382 x13_3).f2)) ∧ w'.cell? (ad408.add ((x13_3).toNat * 3)) = some (.int .i64 ((rd_T43 t382 x13_3).f0)) ∧ w'.cell? ⟨(ad408.add ((x13_3).toNat * 3)).block, (ad408.add ((x13_3).toNat * 3)).off + 1, none⟩ = some (.int .i64 ((rd_T43 t382 x13_3).f1)) ∧ w'.cell? ⟨(ad408.add ((x13_3).toNat * 3)).block, (ad408.add ((x13_3).toNat * 3)).off + 2, none⟩ = some (.bool ((rd_T43 t382 x13_3).f2))) (ds := []) (bm 13 0) (by kernel_rfl) rfl (bm0 _) ⟨hx408_0, hx408_1, hx408_2, hx410_0, hx410_1, hx410_2⟩ (fun hHeld => ?_); refine with_tabW laws_FnRegistry.tab15 laws_FnRegistry.bits15 (fun HT_ HW_ => ?_)
              generalize wr.drew = w63 at HO_3 HO_5 HB hx408_0 hx408_1 hx408_2 hx410_0 hx410_1 hx410_2 hHeld ⊢
              refine pU 0 (some 98) (bm 13 1) HT_ rfl rfl ?_
              refine pU 1 (some 99) (bm 13 3) HT_ rfl rfl ?_
              refine pU 2 (some 100) (bm 13 7) HT_ rfl rfl ?_
              refine pU 3 (some 101) (bm 13 15) HT_ rfl rfl ?_
              refine pU 4 (some 102) (bm 13 31) HT_ rfl rfl ?_
              refine pU 7 (some 105) (bm 13 159) HT_ rfl rfl ?_
              refine pU 8 (some 106) (bm 13 415) HT_ rfl rfl ?_
              refine pU 9 (some 107) (bm 13 927) HT_ rfl rfl ?_
              refine pU 10 (some 108) (bm 13 1951) HT_ rfl rfl ?_
              refine tU 5 (some 103) (bm 13 1983) HT_ HW_ rfl rfl hHeld ?_
              refine tU 11 (some 109) (bm 13 4031) HT_ HW_ rfl rfl hHeld ?_
              refine one_ (i := 6) (N := some 104) (bm 13 4095) rfl rfl (one_of HT_.out (by kernel_rfl)) (by decide) (fun K hK => ?_)
              refine goes_ Try.func15 (by kernel_rfl) rfl #[.slice Ao41 t386.length co41, .int .i64 ((rd_T43 t382 x13_3).f0)] (by rfl) rfl rfl zG ?_
              with_reducible refine (impl_OwnerOf.calls _ _ t386 ((rd_T43 t382 x13_3).f0) t409 _ ?side1 ?side2 A59.out).mono ?_
              (case side1 => repeat (first | exact (Kd.R_reads' HO_5.out).2.2 | (with_reducible refine Kd.C_alloc ?_ _) | (with_reducible refine Kd.C_drewN ?_ _) | (with_reducible refine Kd.C_drew ?_)))
              (case side2 => exact (Kd.R_reads' HO_5.out).2.1)
              rintro e w64 ⟨rfl, hb⟩
              have HS0_ := (hb.cell (World.block_lt_of_cell? _ _ (hHeld.1))).trans (hHeld.1)
              have HS1_ := (hb.cell (World.block_lt_of_cell? _ _ (hHeld.2.1))).trans (hHeld.2.1)
              have HS2_ := (hb.cell (World.block_lt_of_cell? _ _ (hHeld.2.2.1))).trans (hHeld.2.2.1)
              have HS3_ := (hb.cell (World.block_lt_of_cell? _ _ (hHeld.2.2.2.1))).trans (hHeld.2.2.2.1)
              have HS4_ := (hb.cell (World.block_lt_of_cell? _ _ (hHeld.2.2.2.2.1))).trans (hHeld.2.2.2.2.1)
              have HS5_ := (hb.cell (World.block_lt_of_cell? _ _ (hHeld.2.2.2.2.2))).trans (hHeld.2.2.2.2.2)
              refine ⟨_, rfl, ?_⟩
              replace HO_3 := Aside0.mk (Kd.R_below (zR HO_3) hb)
              replace HO_5 := Aside0.mk (Kd.R_below (zR HO_5) hb)
              replace HB := bS HB hb
              (try clear hb)
              (try clear hb2)
              (try clear hk)
              (try clear hi)
              refine hK.out _ _ ⟨HS0_, HS1_, HS2_, HS3_, HS4_, HS5_⟩ (fun hHeld => ?_)
              clear hK K
              refine norm_ (a' := ?_) ?_ ?_
              rotate_left
              ·show Act.put _ (some 104) _ = _
               simp only [Act.put, List.setIfInBounds_toArray, List.set_cons_zero, List.set_cons_succ, i64_w, i32_w]
               rfl
              refine pU 12 (some 110) (bm 13 8191) HT_ rfl rfl ?_
              refine done_ (done_of HT_.out (by kernel_rfl)) ?_
              try clear hHeld
              try go_wp2
              go_ret
              exact ⟨zE, zB HB⟩
            ·rw [if_neg c57] at H
             have c57b0 : decide (x13_3 < (t382.length : Int)) = false := decide_eq_false c57
             clear c57
             have H' := Aside0.mk H
             clear H
             go_wp2
             go_meet
             case rel => exact ⟨_, H', ⟨by have := HJ10.out; have := HJ39.out; have := HK3.out; first | omega | exact Nat.le_refl _⟩, ⟨by (with_reducible repeat (first | apply Kd.R_alloc | apply Kd.R_drewN | apply Kd.R_drew)); exact Kd.R_mono HO_3.out (fun _ hk => trivial)⟩, ⟨zB HB⟩⟩
   ·replace c10 := Bool.eq_false_iff.mpr c10
    subst c10
    have H1 : (laws_FnRegistry.j3 k l0 t382) = some r := by rw [if_neg (show ¬ (false = true) by decide)] at H; exact H
    clear H
    have H := H1
    clear H1
    have H' := Aside0.mk H
    clear H
    go_wp2
    go_meet
    case rel => exact ⟨_, H', ⟨by first | omega | exact Nat.le_refl _⟩, ⟨by (with_reducible repeat (first | apply Kd.R_alloc | apply Kd.R_drewN | apply Kd.R_drew)); exact Kd.R_mono HO385.out (fun _ hk => trivial)⟩, ⟨zB HB⟩⟩
  case rest =>
   clear HC6
   try clear c1
   try clear p2
   try clear c3
   try clear c4
   try clear p4
   try clear q4
   try clear hx4
   try clear c5
   try clear c6
   try clear p6
   try clear c8
   try clear c10
   try clear c12
   try clear c13
   try clear c14
   try clear c15
   try clear c15b0
   try clear c15b1
   try clear c17
   try clear c17b0
   try clear c17b1
   try clear c19
   try clear c37
   try clear p40
   try clear q40
   try clear hx40
   try clear p41
   try clear q41
   try clear hx41
   try clear c45
   try clear c48
   try clear c51
   try clear c56
   try clear c57
   try clear c57b0
   try clear c58
   try clear c58b0
   try clear c60
   try clear c60b0
   try clear c60b1
   try clear p64
   try clear hx408_0
   try clear hx408_1
   try clear hx408_2
   try clear hx410_0
   try clear hx410_1
   try clear hx410_2
   try clear p2
   try clear p408
   try clear p410
   try clear p6
   try clear q408
   try clear q410
   obtain ⟨kq, HA, HJ5, HO_3, HB⟩ := hcut
   cases kq with
   | zero => exact absurd HA.out (by simp [laws_FnRegistry.j3])
   | succ kj5 =>
    have H := HA.out
    clear HA
    simp only [laws_FnRegistry.j3] at H
    replace H := Option.bind_eq_some_iff.mp H
    obtain ⟨⟨t411, t412, t413⟩, A650, H⟩ := H
    replace H : ((impl_ClashOf.f kj5 t411 t412 t413).bind fun t418 => (laws_FnRegistry.l1 kj5 t382 t411 t412 t413 t418 0)) = some r := H
    have A65 := Aside0.mk A650
    clear A650
    obtain ⟨t418, A66, H⟩ := bindS H
    have H' := Aside0.mk H
    clear H
    go_wp2_with (first | ((with_reducible refine gate_callee (f := 20) rfl ?_); refine goesL_ (some 113) rfl rfl Try.func20 (by kernel_rfl) rfl #[.slice A0 l0.length c0] rfl zG ?_; (with_reducible refine (spec_DrawClashOf.calls kj5 _ _ l0 t411 t412 t413 _ ?side1 ?side2 A65.out).mono ?_); (case side1 => exact cS HR0 HB); (case side2 => exact HC0.out); rintro e w67 ⟨v414, v416, rfl, ho0, ho1, hb⟩; refine ⟨_, rfl, ?_⟩; have HO415 := Aside0.mk (Kd.R_lower (Kd.R_new' ho0 (Kd.R_lt (zR HO_3))) (below_size (zB HB))); replace HO_3 := Aside0.mk (Kd.R_elder' (zR HO_3) (Kd.R_base ho0) hb); have HO417 := Aside0.mk (Kd.R_lower ho1 (below_size (zB HB))); replace HB := bS HB hb; (try clear hb); (try clear ho0); (try clear ho1); obtain ⟨Ao68, co68, eo68⟩ := Kd.R_slice HO415.out; subst eo68; obtain ⟨Ao69, co69, eo69⟩ := Kd.R_slice HO417.out; subst eo69) | ((with_reducible refine gate_callee (f := 21) rfl ?_); refine goesL_ (some 120) rfl rfl Try.func21 (by kernel_rfl) rfl #[.slice Ao68 t411.length co68, .slice Ao69 t412.length co69, .int .i64 t413] rfl zG ?_; (with_reducible refine (impl_ClashOf.calls kj5 _ _ t411 _ _ t412 t413 t418 _ ?side1 ?side2 ?side3 ?side4 A66.out).mono ?_); (case side1 => repeat (first | exact (Kd.R_reads' HO415.out).2.2 | (with_reducible refine Kd.C_alloc ?_ _) | (with_reducible refine Kd.C_drewN ?_ _) | (with_reducible refine Kd.C_drew ?_))); (case side2 => exact (Kd.R_reads' HO415.out).2.1); (case side3 => repeat (first | exact (Kd.R_reads' HO417.out).2.2 | (with_reducible refine Kd.C_alloc ?_ _) | (with_reducible refine Kd.C_drewN ?_ _) | (with_reducible refine Kd.C_drew ?_))); (case side4 => exact (Kd.R_reads' HO417.out).2.1); rintro e w70 ⟨v419, rfl, ho0, hb⟩; refine ⟨_, rfl, ?_⟩; replace HO_3 := Aside0.mk (Kd.R_below (zR HO_3) hb); replace HO415 := Aside0.mk (Kd.R_below (zR HO415) hb); have HO420 := Aside0.mk (Kd.R_lower (Kd.R_new' ho0 (Kd.R_lt (zR HO417))) (below_size (zB HB))); replace HO417 := Aside0.mk (Kd.R_elder' (zR HO417) (Kd.R_base ho0) hb); replace HB := bS HB hb; (try clear hb); (try clear ho0)))
    go_loopg [18] kj5 (fun kq v18 w' => ∃ (x18_2 : Int), v18 = .int .i64 x18_2 ∧ Aside0 (laws_FnRegistry.l1 kq t382 t411 t412 t413 t418 x18_2 = some r) ∧ Aside0 (kq ≤ kj5) ∧ Aside0 (Kd.R k43 43 w' w.heap.size (fun k_ => some k_ ≠ ((.slice Ao68 t411.length co68) : Value).ownBlock) (.slice Ao8 t382.length co8) t382) ∧ Aside0 (Kd.R k43 43 w' w.heap.size (fun k_ => some k_ ≠ ((.slice Ao8 t382.length co8) : Value).ownBlock) (.slice Ao68 t411.length co68) t411) ∧ Aside0 (Kd.R (Kd.int .i64) 3 w' w.heap.size (fun k_ => some k_ ≠ (v419 : Value).ownBlock) (.slice Ao69 t412.length co69) t412) ∧ Aside0 (Kd.R (Kd.int .i64) 3 w' w.heap.size (fun k_ => some k_ ≠ ((.slice Ao69 t412.length co69) : Value).ownBlock) v419 t418) ∧ Aside0 (Below w.heap.size w w'))
    case atStart => exact ⟨(0), zF, H', ⟨Nat.le_refl _⟩, ⟨by (with_reducible repeat (first | apply Kd.R_alloc | apply Kd.R_drewN | apply Kd.R_drew)); exact Kd.R_mono HO_3.out (fun _ hk => hk.2)⟩, ⟨by (with_reducible repeat (first | apply Kd.R_alloc | apply Kd.R_drewN | apply Kd.R_drew)); exact Kd.R_mono HO415.out (fun _ hk => hk.2)⟩, ⟨by (with_reducible repeat (first | apply Kd.R_alloc | apply Kd.R_drewN | apply Kd.R_drew)); exact Kd.R_mono HO417.out (fun _ hk => hk.2)⟩, ⟨by (with_reducible repeat (first | apply Kd.R_alloc | apply Kd.R_drewN | apply Kd.R_drew)); exact Kd.R_mono HO420.out (fun _ hk => hk.2)⟩, ⟨zB HB⟩⟩
    case round =>
     clear H'
     try clear c1
     try clear c2
     try clear p2
     try clear c3
     try clear c4
     try clear p4
     try clear q4
     try clear hx4
     try clear c5
     try clear c6
     try clear p6
     try clear c8
     try clear c10
     try clear c12
     try clear c13
     try clear c14
     try clear c15
     try clear c15b0
     try clear c15b1
     try clear c17
     try clear c17b0
     try clear c17b1
     try clear c19
     try clear c20
     try clear c21
     try clear c37
     try clear p40
     try clear q40
     try clear hx40
     try clear p41
     try clear q41
     try clear hx41
     try clear c45
     try clear c48
     try clear c51
     try clear c56
     try clear c57
     try clear c57b0
     try clear c58
     try clear c58b0
     try clear c60
     try clear c60b0
     try clear c60b1
     try clear p64
     try clear hx408_0
     try clear hx408_1
     try clear hx408_2
     try clear hx410_0
     try clear hx410_1
     try clear hx410_2
     try clear p2
     try clear p4
     try clear p40
     try clear p408
     try clear p41
     try clear p410
     try clear p6
     try clear p64
     try clear q4
     try clear q40
     try clear q408
     try clear q41
     try clear q410
     obtain ⟨x18_2, rfl, HA, HK2, HO_3, HO_14, HO_15, HO_17, HB⟩ := hrel
     cases gk with
     | zero => exact absurd HA.out (by simp [laws_FnRegistry.l1])
     | succ k2 =>
      have H := HA.out
      clear HA
      simp only [laws_FnRegistry.l1] at H
      by_cases c71 : x18_2 < (t418.length : Int)
      ·rw [if_pos c71] at H
       have c71b0 : decide (x18_2 < (t418.length : Int)) = true := decide_eq_true c71
       clear c71
       obtain ⟨c72, H⟩ := ifS H
       have c72b0 : decide (0 ≤ x18_2) = true := decide_eq_true c72
       clear c72
       obtain ⟨t428, A73, H⟩ := bindS H
       by_cases c74 : t428 = true
       ·subst c74
        have H1 : ((impl_IsReserved.f (rd t418 x18_2)).bind fun t430 => (if t430 = true then (laws_FnRegistry.l1 k2 t382 t411 t412 t413 t418 (wrap64 (x18_2 + 1))) else ((impl_OwnerOf.f t411 (rd t418 x18_2)).bind fun t432 => (if t432 = t413 then (some false) else (laws_FnRegistry.l1 k2 t382 t411 t412 t413 t418 (wrap64 (x18_2 + 1))))))) = some r := by rw [if_pos rfl] at H; exact H
        clear H
        have H := H1
        clear H1
        obtain ⟨t430, A75, H⟩ := bindS H
        by_cases c76 : t430 = true
        ·subst c76
         have H1 : (laws_FnRegistry.l1 k2 t382 t411 t412 t413 t418 (wrap64 (x18_2 + 1))) = some r := by rw [if_pos rfl] at H; exact H
         clear H
         have H := H1
         clear H1
         have H' := Aside0.mk H
         clear H
         obtain ⟨Ao77, co77, eo77⟩ := Kd.R_slice HO_17.out
         subst eo77
         have p427 : 0 ≤ (x18_2 : Int) := zD
         have q427 : x18_2 < (t418.length : Int) := zD
         obtain ⟨ad427, e427, hx427_0⟩ := Kd.at_int (Kd.R_reads' HO_17.out).2.2 x18_2 p427 q427
         cases e427
         replace p427 := eq_true p427
         replace q427 := eq_true q427
         go_wp2_with (first | ((with_reducible refine gate_callee (f := 18) rfl ?_); refine goesL_ (some 132) rfl rfl Try.func18 (by kernel_rfl) rfl #[.slice Ao69 t412.length co69, .int .i64 (rd t418 x18_2)] rfl zG ?_; (with_reducible refine (laws_contains.calls k2 _ _ t412 (rd t418 x18_2) true _ ?side1 ?side2 A73.out).mono ?_); (case side1 => repeat (first | exact (Kd.R_reads' HO_15.out).2.2 | (with_reducible refine Kd.C_alloc ?_ _) | (with_reducible refine Kd.C_drewN ?_ _) | (with_reducible refine Kd.C_drew ?_))); (case side2 => exact (Kd.R_reads' HO_15.out).2.1); rintro e w' ⟨rfl, ⟨nd, rfl⟩⟩; refine ⟨_, rfl, ?_⟩; have p429 : 0 ≤ (x18_2 : Int) := zD; have q429 : x18_2 < (t418.length : Int) := zD; obtain ⟨ad429, e429, hx429_0⟩ := Kd.at_int (Kd.R_reads' HO_17.out).2.2 x18_2 p429 q429; obtain rfl : ad427 = ad429 := (by injection e429); replace p429 := eq_true p429; replace q429 := eq_true q429) | (go_at_call 16; (with_reducible refine (impl_IsReserved.calls (rd t418 x18_2) true _ A75.out).mono ?_); rintro e w' ⟨rfl, ⟨nd, rfl⟩⟩))
         go_roundg k2
         case measure => have := HJ5.out; have := HK2.out; omega
         case rel => exact ⟨(wrap64 (x18_2 + 1)), zF, H', ⟨by have := HJ5.out; have := HK2.out; omega⟩, ⟨zR HO_3⟩, ⟨zR HO_14⟩, ⟨zR HO_15⟩, ⟨zR HO_17⟩, ⟨zB HB⟩⟩
        ·replace c76 := Bool.eq_false_iff.mpr c76
         subst c76
         have H1 : ((impl_OwnerOf.f t411 (rd t418 x18_2)).bind fun t432 => (if t432 = t413 then (some false) else (laws_FnRegistry.l1 k2 t382 t411 t412 t413 t418 (wrap64 (x18_2 + 1))))) = some r := by rw [if_neg (show ¬ (false = true) by decide)] at H; exact H
         clear H
         have H := H1
         clear H1
         obtain ⟨t432, A78, H⟩ := bindS H
         by_cases c79 : t432 = t413
         ·rw [if_pos c79] at H
          have c79b0 : (t432 == t413) = true := beq_iff_eq.mpr c79
          have c79b1 : (t432 != t413) = false := bne_eq_false_iff_eq.mpr c79
          clear c79
          obtain rfl := Option.some.inj H
          obtain ⟨Ao80, co80, eo80⟩ := Kd.R_slice HO_17.out
          subst eo80
          have p427 : 0 ≤ (x18_2 : Int) := zD
          have q427 : x18_2 < (t418.length : Int) := zD
          obtain ⟨ad427, e427, hx427_0⟩ := Kd.at_int (Kd.R_reads' HO_17.out).2.2 x18_2 p427 q427
          cases e427
          replace p427 := eq_true p427
          replace q427 := eq_true q427
          go_wp2_with (first | ((with_reducible refine gate_callee (f := 18) rfl ?_); refine goesL_ (some 132) rfl rfl Try.func18 (by kernel_rfl) rfl #[.slice Ao69 t412.length co69, .int .i64 (rd t418 x18_2)] rfl zG ?_; (with_reducible refine (laws_contains.calls k2 _ _ t412 (rd t418 x18_2) true _ ?side1 ?side2 A73.out).mono ?_); (case side1 => repeat (first | exact (Kd.R_reads' HO_15.out).2.2 | (with_reducible refine Kd.C_alloc ?_ _) | (with_reducible refine Kd.C_drewN ?_ _) | (with_reducible refine Kd.C_drew ?_))); (case side2 => exact (Kd.R_reads' HO_15.out).2.1); rintro e w' ⟨rfl, ⟨nd, rfl⟩⟩; refine ⟨_, rfl, ?_⟩; have p429 : 0 ≤ (x18_2 : Int) := zD; have q429 : x18_2 < (t418.length : Int) := zD; obtain ⟨ad429, e429, hx429_0⟩ := Kd.at_int (Kd.R_reads' HO_17.out).2.2 x18_2 p429 q429; obtain rfl : ad427 = ad429 := (by injection e429); replace p429 := eq_true p429; replace q429 := eq_true q429) | (go_at_call 16; (with_reducible refine (impl_IsReserved.calls (rd t418 x18_2) false _ A75.out).mono ?_); rintro e w' ⟨rfl, ⟨nd, rfl⟩⟩; have p431 : 0 ≤ (x18_2 : Int) := zD; have q431 : x18_2 < (t418.length : Int) := zD; obtain ⟨ad431, e431, hx431_0⟩ := Kd.at_int (Kd.R_reads' HO_17.out).2.2 x18_2 p431 q431; obtain rfl : ad427 = ad431 := (by injection e431); replace p431 := eq_true p431; replace q431 := eq_true q431) | (go_at_call 15; (with_reducible refine (impl_OwnerOf.calls _ _ t411 (rd t418 x18_2) t432 _ ?side1 ?side2 A78.out).mono ?_); (case side1 => repeat (first | exact (Kd.R_reads' HO_14.out).2.2 | (with_reducible refine Kd.C_alloc ?_ _) | (with_reducible refine Kd.C_drewN ?_ _) | (with_reducible refine Kd.C_drew ?_))); (case side2 => exact (Kd.R_reads' HO_14.out).2.1); rintro e w81 ⟨rfl, hb⟩; replace HO_3 := Aside0.mk (Kd.R_below (zR HO_3) hb); replace HO_14 := Aside0.mk (Kd.R_below (zR HO_14) hb); replace HO_15 := Aside0.mk (Kd.R_below (zR HO_15) hb); replace HO_17 := Aside0.mk (Kd.R_below (zR HO_17) hb); replace HB := bS HB hb; (try clear hb)))
          go_ret
          exact ⟨zE, zB HB⟩
         ·rw [if_neg c79] at H
          have c79b0 : (t432 == t413) = false := beq_eq_false_iff_ne.mpr c79
          have c79b1 : (t432 != t413) = true := bne_iff_ne.mpr c79
          have H' := Aside0.mk H
          clear H
          obtain ⟨Ao82, co82, eo82⟩ := Kd.R_slice HO_17.out
          subst eo82
          have p427 : 0 ≤ (x18_2 : Int) := zD
          have q427 : x18_2 < (t418.length : Int) := zD
          obtain ⟨ad427, e427, hx427_0⟩ := Kd.at_int (Kd.R_reads' HO_17.out).2.2 x18_2 p427 q427
          cases e427
          replace p427 := eq_true p427
          replace q427 := eq_true q427
          go_wp2_with (first | ((with_reducible refine gate_callee (f := 18) rfl ?_); refine goesL_ (some 132) rfl rfl Try.func18 (by kernel_rfl) rfl #[.slice Ao69 t412.length co69, .int .i64 (rd t418 x18_2)] rfl zG ?_; (with_reducible refine (laws_contains.calls k2 _ _ t412 (rd t418 x18_2) true _ ?side1 ?side2 A73.out).mono ?_); (case side1 => repeat (first | exact (Kd.R_reads' HO_15.out).2.2 | (with_reducible refine Kd.C_alloc ?_ _) | (with_reducible refine Kd.C_drewN ?_ _) | (with_reducible refine Kd.C_drew ?_))); (case side2 => exact (Kd.R_reads' HO_15.out).2.1); rintro e w' ⟨rfl, ⟨nd, rfl⟩⟩; refine ⟨_, rfl, ?_⟩; have p429 : 0 ≤ (x18_2 : Int) := zD; have q429 : x18_2 < (t418.length : Int) := zD; obtain ⟨ad429, e429, hx429_0⟩ := Kd.at_int (Kd.R_reads' HO_17.out).2.2 x18_2 p429 q429; obtain rfl : ad427 = ad429 := (by injection e429); replace p429 := eq_true p429; replace q429 := eq_true q429) | (go_at_call 16; (with_reducible refine (impl_IsReserved.calls (rd t418 x18_2) false _ A75.out).mono ?_); rintro e w' ⟨rfl, ⟨nd, rfl⟩⟩; have p431 : 0 ≤ (x18_2 : Int) := zD; have q431 : x18_2 < (t418.length : Int) := zD; obtain ⟨ad431, e431, hx431_0⟩ := Kd.at_int (Kd.R_reads' HO_17.out).2.2 x18_2 p431 q431; obtain rfl : ad427 = ad431 := (by injection e431); replace p431 := eq_true p431; replace q431 := eq_true q431) | (go_at_call 15; (with_reducible refine (impl_OwnerOf.calls _ _ t411 (rd t418 x18_2) t432 _ ?side1 ?side2 A78.out).mono ?_); (case side1 => repeat (first | exact (Kd.R_reads' HO_14.out).2.2 | (with_reducible refine Kd.C_alloc ?_ _) | (with_reducible refine Kd.C_drewN ?_ _) | (with_reducible refine Kd.C_drew ?_))); (case side2 => exact (Kd.R_reads' HO_14.out).2.1); rintro e w83 ⟨rfl, hb⟩; replace HO_3 := Aside0.mk (Kd.R_below (zR HO_3) hb); replace HO_14 := Aside0.mk (Kd.R_below (zR HO_14) hb); replace HO_15 := Aside0.mk (Kd.R_below (zR HO_15) hb); replace HO_17 := Aside0.mk (Kd.R_below (zR HO_17) hb); replace HB := bS HB hb; (try clear hb)))
          go_roundg k2
          case measure => have := HJ5.out; have := HK2.out; omega
          case rel => exact ⟨(wrap64 (x18_2 + 1)), zF, H', ⟨by have := HJ5.out; have := HK2.out; omega⟩, ⟨zR HO_3⟩, ⟨zR HO_14⟩, ⟨zR HO_15⟩, ⟨zR HO_17⟩, ⟨zB HB⟩⟩
       ·replace c74 := Bool.eq_false_iff.mpr c74
        subst c74
        have H1 : (some false) = some r := by rw [if_neg (show ¬ (false = true) by decide)] at H; exact H
        clear H
        have H := H1
        clear H1
        obtain rfl := Option.some.inj H
        obtain ⟨Ao84, co84, eo84⟩ := Kd.R_slice HO_17.out
        subst eo84
        have p427 : 0 ≤ (x18_2 : Int) := zD
        have q427 : x18_2 < (t418.length : Int) := zD
        obtain ⟨ad427, e427, hx427_0⟩ := Kd.at_int (Kd.R_reads' HO_17.out).2.2 x18_2 p427 q427
        cases e427
        replace p427 := eq_true p427
        replace q427 := eq_true q427
        go_wp2_with (first | ((with_reducible refine gate_callee (f := 18) rfl ?_); refine goesL_ (some 132) rfl rfl Try.func18 (by kernel_rfl) rfl #[.slice Ao69 t412.length co69, .int .i64 (rd t418 x18_2)] rfl zG ?_; (with_reducible refine (laws_contains.calls k2 _ _ t412 (rd t418 x18_2) false _ ?side1 ?side2 A73.out).mono ?_); (case side1 => repeat (first | exact (Kd.R_reads' HO_15.out).2.2 | (with_reducible refine Kd.C_alloc ?_ _) | (with_reducible refine Kd.C_drewN ?_ _) | (with_reducible refine Kd.C_drew ?_))); (case side2 => exact (Kd.R_reads' HO_15.out).2.1); rintro e w' ⟨rfl, ⟨nd, rfl⟩⟩; refine ⟨_, rfl, ?_⟩))
        go_ret
        exact ⟨zE, zB HB⟩
      ·rw [if_neg c71] at H
       have c71b0 : decide (x18_2 < (t418.length : Int)) = false := decide_eq_false c71
       clear c71
       obtain ⟨t421, A85, H⟩ := bindS H
       by_cases c86 : (t421.length : Int) ≤ (t382.length : Int)
       ·rw [if_pos c86] at H
        have c86b0 : decide ((t421.length : Int) ≤ (t382.length : Int)) = true := decide_eq_true c86
        have c86b1 : decide (t421.length ≤ t382.length) = true := decide_eq_true (Int.ofNat_le.mp c86)
        clear c86
        obtain ⟨t424, A87, H⟩ := bindS H
        obtain rfl := Option.some.inj H
        obtain ⟨Ao88, co88, eo88⟩ := Kd.R_slice HO_17.out
        subst eo88
        go_wp2_with (first | ((with_reducible refine gate_callee (f := 19) rfl ?_); refine goesL_ (some 153) rfl rfl Try.func19 (by kernel_rfl) rfl #[.slice Ao8 t382.length co8] rfl zG ?_; (with_reducible refine (impl_LiveTags.calls k2 _ _ t382 t421 _ ?side1 ?side2 A85.out).mono ?_); (case side1 => repeat (first | exact (Kd.R_reads' HO_3.out).2.2 | (with_reducible refine Kd.C_alloc ?_ _) | (with_reducible refine Kd.C_drewN ?_ _) | (with_reducible refine Kd.C_drew ?_))); (case side2 => exact (Kd.R_reads' HO_3.out).2.1); rintro e w89 ⟨v422, rfl, ho0, hb⟩; refine ⟨_, rfl, ?_⟩; replace HO_3 := Aside0.mk (Kd.R_below (zR HO_3) hb); replace HO_14 := Aside0.mk (Kd.R_below (zR HO_14) hb); have HO423 := Aside0.mk (Kd.R_lower (Kd.R_new' (Kd.R_new' ho0 (Kd.R_lt (zR HO_15))) (Kd.R_lt (zR HO_17))) (below_size (zB HB))); replace HO_15 := Aside0.mk (Kd.R_elder' (zR HO_15) (Kd.R_base ho0) hb); replace HO_17 := Aside0.mk (Kd.R_elder' (zR HO_17) (Kd.R_base ho0) hb); replace HB := bS HB hb; (try clear hb); (try clear ho0); obtain ⟨Ao90, co90, eo90⟩ := Kd.R_slice HO423.out; subst eo90) | (go_at_call 22; (with_reducible refine (spec_LiveTags.calls k2 _ _ t382 t424 _ ?side1 ?side2 A87.out).mono ?_); (case side1 => repeat (first | exact (Kd.R_reads' HO_3.out).2.2 | (with_reducible refine Kd.C_alloc ?_ _) | (with_reducible refine Kd.C_drewN ?_ _) | (with_reducible refine Kd.C_drew ?_))); (case side2 => exact (Kd.R_reads' HO_3.out).2.1); rintro e w91 ⟨v425, rfl, ho0, hb⟩; replace HO_3 := Aside0.mk (Kd.R_below (zR HO_3) hb); replace HO_14 := Aside0.mk (Kd.R_below (zR HO_14) hb); have HO426 := Aside0.mk (Kd.R_lower (Kd.R_new' (Kd.R_new' (Kd.R_new' ho0 (Kd.R_lt (zR HO_15))) (Kd.R_lt (zR HO_17))) (Kd.R_lt (zR HO423))) (below_size (zB HB))); replace HO_15 := Aside0.mk (Kd.R_elder' (zR HO_15) (Kd.R_base ho0) hb); replace HO_17 := Aside0.mk (Kd.R_elder' (zR HO_17) (Kd.R_base ho0) hb); replace HO423 := Aside0.mk (Kd.R_elder' (zR HO423) (Kd.R_base ho0) hb); replace HB := bS HB hb; (try clear hb); (try clear ho0); obtain ⟨Ao92, co92, eo92⟩ := Kd.R_slice HO426.out; subst eo92))
        go_ret
        exact ⟨zE, zB HB⟩
       ·rw [if_neg c86] at H
        have c86b0 : decide ((t421.length : Int) ≤ (t382.length : Int)) = false := decide_eq_false c86
        have c86b1 : decide (t421.length ≤ t382.length) = false := decide_eq_false (fun h => c86 (Int.ofNat_le.mpr h))
        clear c86
        obtain rfl := Option.some.inj H
        obtain ⟨Ao93, co93, eo93⟩ := Kd.R_slice HO_17.out
        subst eo93
        go_wp2_with (first | ((with_reducible refine gate_callee (f := 19) rfl ?_); refine goesL_ (some 153) rfl rfl Try.func19 (by kernel_rfl) rfl #[.slice Ao8 t382.length co8] rfl zG ?_; (with_reducible refine (impl_LiveTags.calls k2 _ _ t382 t421 _ ?side1 ?side2 A85.out).mono ?_); (case side1 => repeat (first | exact (Kd.R_reads' HO_3.out).2.2 | (with_reducible refine Kd.C_alloc ?_ _) | (with_reducible refine Kd.C_drewN ?_ _) | (with_reducible refine Kd.C_drew ?_))); (case side2 => exact (Kd.R_reads' HO_3.out).2.1); rintro e w94 ⟨v422, rfl, ho0, hb⟩; refine ⟨_, rfl, ?_⟩; replace HO_3 := Aside0.mk (Kd.R_below (zR HO_3) hb); replace HO_14 := Aside0.mk (Kd.R_below (zR HO_14) hb); have HO423 := Aside0.mk (Kd.R_lower (Kd.R_new' (Kd.R_new' ho0 (Kd.R_lt (zR HO_15))) (Kd.R_lt (zR HO_17))) (below_size (zB HB))); replace HO_15 := Aside0.mk (Kd.R_elder' (zR HO_15) (Kd.R_base ho0) hb); replace HO_17 := Aside0.mk (Kd.R_elder' (zR HO_17) (Kd.R_base ho0) hb); replace HB := bS HB hb; (try clear hb); (try clear ho0); obtain ⟨Ao95, co95, eo95⟩ := Kd.R_slice HO423.out; subst eo95))
        go_ret
        exact ⟨zE, zB HB⟩

/-- THE ONE PURE STATEMENT of laws_FnRegistry: yours. -/
def laws_FnRegistry.Pure : Prop := ∀ (l0 : List Int), l0.length ≤ maxLen → l0.length * 1 ≤ 140737488351232 → (∀ x ∈ l0, (Lit.int .u8 x).wf = true) → ∃ k, laws_FnRegistry.f k l0 = some true
theorem laws_FnRegistry.walk (P : laws_FnRegistry.Pure) (a0 : Option Addr) (len0 cap0 : Nat) (z0 : List Int) (w : World) (w0 : (a0 = none ∧ len0 = 0 ∧ cap0 = 0 ∧ z0 = []) ∨ ∃ x, a0 = some x ∧ len0 ≤ cap0 ∧ cap0 ≤ maxLen ∧ z0.length = cap0 ∧ (∀ i, i < z0.length → w.cell? (x.add i) = some (.int .u8 (z0.getD i 0))) ∧ ∀ n ∈ z0, (Lit.int .u8 n).wf = true) (y0 : len0 * 1 ≤ 140737488351232) :
  Calls Try.prog 4 #[.slice a0 len0 cap0] w fun e w' => e = .returned (.bool true) ∧ Below w.heap.size w w' := by
 obtain ⟨l0, rfl, hr0, hm0, hw0, hc0⟩ := ReadsInt.ofRowC w0
 obtain ⟨k, h⟩ := P l0 hm0 y0 hw0
 refine (laws_FnRegistry.calls k _ _ l0 true w (Kd.C_of_reads (d := (0 : Int)) (h1 := fun _ => rfl) hr0) hc0 h).mono ?_
 rintro e w' ⟨rfl, hd⟩
 exact ⟨rfl, hd⟩

end Go.Proofs.Ytgbfbdeeaogigaa.PFnRegistry
