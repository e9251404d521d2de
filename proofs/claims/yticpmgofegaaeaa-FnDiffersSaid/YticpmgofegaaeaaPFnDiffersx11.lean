-- WRITTEN by pp.py, this session's own wrapper around the print; not trusted: Lean checks it
import Derived.Test.YticpmgofegaaeaaPFnDiffersx0
import Derived.Test.YticpmgofegaaeaaPFnDiffersx2
import Derived.Test.YticpmgofegaaeaaPFnDiffersx3
import Derived.Test.YticpmgofegaaeaaPFnDiffersx5
import Derived.Test.YticpmgofegaaeaaPFnDiffersx7
import Derived.Test.YticpmgofegaaeaaPFnDiffersx8
import Derived.Test.YticpmgofegaaeaaPFnDiffersx9
import Derived.Test.YticpmgofegaaeaaPFnDiffersx10
namespace Go.Proofs.Yticpmgofegaaeaa.PFnDiffers
open Go.RowKit Go.Proofs.Yticpmgofegaaeaa.Hw Go.Proofs.YticpmgofegaaeaaW.PrintWords Go.Proofs.YticpmgofegaaeaaW.PrintLast Go.Proofs.YticpmgofegaaeaaW.PrintMore
attribute [local go_sem] max2_int min2_int max_two min_two max_three min_three max_four min_four   -- for this text's walks alone
set_option linter.unusedVariables false
set_option linter.unusedSimpArgs false
set_option linter.unusedSectionVars false

/-! ### laws_FnDiffers: function 5 -/
mutual
def laws_FnDiffers.j0 : Nat → List (S47) → List (S47) → Int → Bool → Option (Bool)
 | 0, _, _, _, _ => none
 | k + 1, x3, x4, x5, x35 => if x35 = true then (some false) else ((impl_BreakOf.f k x4 x3).bind fun t461 => (if x5 = 1 then (if t461 = 3 then (if x5 = 3 then (laws_FnDiffers.j1 k x3 x4 x5 (t461 != 1)) else (laws_FnDiffers.j1 k x3 x4 x5 false)) else (laws_FnDiffers.j1 k x3 x4 x5 true)) else (if x5 = 3 then (laws_FnDiffers.j1 k x3 x4 x5 (t461 != 1)) else (laws_FnDiffers.j1 k x3 x4 x5 false))))
def laws_FnDiffers.j1 : Nat → List (S47) → List (S47) → Int → Bool → Option (Bool)
 | 0, _, _, _, _ => none
 | k + 1, x3, x4, x5, x52 => if x52 = true then (some false) else ((impl_IsWithin.f k x3 x4).bind fun t462 => (if t462 = true then ((impl_LostBy.f k x3 x4 12).bind fun t463 => (laws_FnDiffers.j2 k x3 x4 x5 (t463 != 0))) else (laws_FnDiffers.j2 k x3 x4 x5 false)))
def laws_FnDiffers.j2 : Nat → List (S47) → List (S47) → Int → Bool → Option (Bool)
 | 0, _, _, _, _ => none
 | k + 1, x3, x4, x5, x61 => if x61 = true then (some false) else (laws_FnDiffers.l0 k x3 x4 x5 0)
def laws_FnDiffers.l0 : Nat → List (S47) → List (S47) → Int → Int → Option (Bool)
 | 0, _, _, _, _ => none
 | k + 1, x3, x4, x5, x7 => if x7 < 5 then ((impl_MakeBytes.f k x3 x7).bind fun t464 => ((impl_IsWithin.f k x3 x4).bind fun t467 => (if t467 = true then ((impl_DecodeMessage.f k x4 t464).bind fun bt468 => (if bt468.2 = true then ((impl_MakeMessage.f k x3 x7).bind fun t472 => ((impl_EqualMessages.f k bt468.1 t472).bind fun t475 => (if t475 = true then (laws_FnDiffers.j4 k x3 x4 x5 x7) else (some false)))) else (some false))) else (laws_FnDiffers.j4 k x3 x4 x5 x7)))) else (some true)
def laws_FnDiffers.j4 : Nat → List (S47) → List (S47) → Int → Int → Option (Bool)
 | 0, _, _, _, _ => none
 | k + 1, x3, x4, x5, x7 => if x5 = 2 then (if 0 ≤ (x3.length : Int) then (if (x3.length : Int) ≤ (x4.length : Int) then ((impl_EqualFormats.f k x3 (x4.take ((x3.length : Int) : Int).toNat)).bind fun t480 => (if t480 = true then ((impl_SkipsTail.f k x3 x4 x7).bind fun t481 => (if t481 = true then (laws_FnDiffers.l0 k x3 x4 x5 (wrap64 (x7 + 1))) else (some false))) else (laws_FnDiffers.l0 k x3 x4 x5 (wrap64 (x7 + 1))))) else (none)) else (none)) else (laws_FnDiffers.l0 k x3 x4 x5 (wrap64 (x7 + 1)))
end
def laws_FnDiffers.f (k : Nat) (l0 : List Int) : Option (Bool) := (laws_big.f l0).bind fun t450 => (if t450 = true then (some true) else ((spec_DrawBreakOf.f k l0).bind fun bt451 => ((impl_BreakOf.f k bt451.1 bt451.2).bind fun t457 => ((impl_BreakName.f t457).bind fun t458 => (if t458.toList = ([] : List UInt8) then (laws_FnDiffers.j0 k bt451.1 bt451.2 t457 true) else ((impl_IsFormat.f k bt451.1).bind fun t459 => (if t459 = true then ((impl_EqualFormats.f k bt451.1 bt451.2).bind fun t460 => (laws_FnDiffers.j0 k bt451.1 bt451.2 t457 ((t457 == 0) != t460))) else (laws_FnDiffers.j0 k bt451.1 bt451.2 t457 ((t457 == 0) != false)))))))))
theorem laws_FnDiffers.mono_l : ∀ k, (∀ y0 y1 y2 y3, LeO (laws_FnDiffers.j0 k y0 y1 y2 y3) (laws_FnDiffers.j0 (k + 1) y0 y1 y2 y3)) ∧ (∀ y0 y1 y2 y3, LeO (laws_FnDiffers.j1 k y0 y1 y2 y3) (laws_FnDiffers.j1 (k + 1) y0 y1 y2 y3)) ∧ (∀ y0 y1 y2 y3, LeO (laws_FnDiffers.j2 k y0 y1 y2 y3) (laws_FnDiffers.j2 (k + 1) y0 y1 y2 y3)) ∧ (∀ y0 y1 y2 y3, LeO (laws_FnDiffers.l0 k y0 y1 y2 y3) (laws_FnDiffers.l0 (k + 1) y0 y1 y2 y3)) ∧ (∀ y0 y1 y2 y3, LeO (laws_FnDiffers.j4 k y0 y1 y2 y3) (laws_FnDiffers.j4 (k + 1) y0 y1 y2 y3))
 | 0 => ⟨fun _ _ _ _ r h => by simp [laws_FnDiffers.j0] at h, fun _ _ _ _ r h => by simp [laws_FnDiffers.j1] at h, fun _ _ _ _ r h => by simp [laws_FnDiffers.j2] at h, fun _ _ _ _ r h => by simp [laws_FnDiffers.l0] at h, fun _ _ _ _ r h => by simp [laws_FnDiffers.j4] at h⟩
 | k + 1 => by
  obtain ⟨ih0, ih1, ih2, ih3, ih4⟩ := laws_FnDiffers.mono_l k
  refine ⟨?_, ?_, ?_, ?_, ?_⟩
  ·intro y0 y1 y2 y3
   unfold laws_FnDiffers.j0
   repeat' first
   | (with_reducible exact ih0 _ _ _ _)
   | (with_reducible exact ih1 _ _ _ _)
   | (with_reducible exact ih2 _ _ _ _)
   | (with_reducible exact ih3 _ _ _ _)
   | (with_reducible exact ih4 _ _ _ _)
   | (with_reducible exact impl_BreakOf.mono _ _ _)
   | (with_reducible exact impl_DecodeMessage.mono _ _ _)
   | (with_reducible exact impl_EqualFormats.mono _ _ _)
   | (with_reducible exact impl_EqualMessages.mono _ _ _)
   | (with_reducible exact impl_IsFormat.mono _ _)
   | (with_reducible exact impl_IsWithin.mono _ _ _)
   | (with_reducible exact impl_LostBy.mono _ _ _ _)
   | (with_reducible exact impl_MakeBytes.mono _ _ _)
   | (with_reducible exact impl_MakeMessage.mono _ _ _)
   | (with_reducible exact impl_SkipsTail.mono _ _ _ _)
   | (with_reducible exact spec_DrawBreakOf.mono _ _)
   | (with_reducible exact LeO.refl _)
   | (with_reducible exact LeO.none _)
   | (with_reducible refine LeO.ite ?_ ?_)
   | (with_reducible refine LeO.bind ?_ (fun _ => ?_))
   | exact ih0 _ _ _ _
   | exact ih1 _ _ _ _
   | exact ih2 _ _ _ _
   | exact ih3 _ _ _ _
   | exact ih4 _ _ _ _
   | exact impl_BreakOf.mono _ _ _
   | exact impl_DecodeMessage.mono _ _ _
   | exact impl_EqualFormats.mono _ _ _
   | exact impl_EqualMessages.mono _ _ _
   | exact impl_IsFormat.mono _ _
   | exact impl_IsWithin.mono _ _ _
   | exact impl_LostBy.mono _ _ _ _
   | exact impl_MakeBytes.mono _ _ _
   | exact impl_MakeMessage.mono _ _ _
   | exact impl_SkipsTail.mono _ _ _ _
   | exact spec_DrawBreakOf.mono _ _
   | exact LeO.none _
   | refine LeO.ite ?_ ?_
   | refine LeO.bind ?_ (fun _ => ?_)
  ·intro y0 y1 y2 y3
   unfold laws_FnDiffers.j1
   repeat' first
   | (with_reducible exact ih0 _ _ _ _)
   | (with_reducible exact ih1 _ _ _ _)
   | (with_reducible exact ih2 _ _ _ _)
   | (with_reducible exact ih3 _ _ _ _)
   | (with_reducible exact ih4 _ _ _ _)
   | (with_reducible exact impl_BreakOf.mono _ _ _)
   | (with_reducible exact impl_DecodeMessage.mono _ _ _)
   | (with_reducible exact impl_EqualFormats.mono _ _ _)
   | (with_reducible exact impl_EqualMessages.mono _ _ _)
   | (with_reducible exact impl_IsFormat.mono _ _)
   | (with_reducible exact impl_IsWithin.mono _ _ _)
   | (with_reducible exact impl_LostBy.mono _ _ _ _)
   | (with_reducible exact impl_MakeBytes.mono _ _ _)
   | (with_reducible exact impl_MakeMessage.mono _ _ _)
   | (with_reducible exact impl_SkipsTail.mono _ _ _ _)
   | (with_reducible exact spec_DrawBreakOf.mono _ _)
   | (with_reducible exact LeO.refl _)
   | (with_reducible exact LeO.none _)
   | (with_reducible refine LeO.ite ?_ ?_)
   | (with_reducible refine LeO.bind ?_ (fun _ => ?_))
   | exact ih0 _ _ _ _
   | exact ih1 _ _ _ _
   | exact ih2 _ _ _ _
   | exact ih3 _ _ _ _
   | exact ih4 _ _ _ _
   | exact impl_BreakOf.mono _ _ _
   | exact impl_DecodeMessage.mono _ _ _
   | exact impl_EqualFormats.mono _ _ _
   | exact impl_EqualMessages.mono _ _ _
   | exact impl_IsFormat.mono _ _
   | exact impl_IsWithin.mono _ _ _
   | exact impl_LostBy.mono _ _ _ _
   | exact impl_MakeBytes.mono _ _ _
   | exact impl_MakeMessage.mono _ _ _
   | exact impl_SkipsTail.mono _ _ _ _
   | exact spec_DrawBreakOf.mono _ _
   | exact LeO.none _
   | refine LeO.ite ?_ ?_
   | refine LeO.bind ?_ (fun _ => ?_)
  ·intro y0 y1 y2 y3
   unfold laws_FnDiffers.j2
   repeat' first
   | (with_reducible exact ih0 _ _ _ _)
   | (with_reducible exact ih1 _ _ _ _)
   | (with_reducible exact ih2 _ _ _ _)
   | (with_reducible exact ih3 _ _ _ _)
   | (with_reducible exact ih4 _ _ _ _)
   | (with_reducible exact impl_BreakOf.mono _ _ _)
   | (with_reducible exact impl_DecodeMessage.mono _ _ _)
   | (with_reducible exact impl_EqualFormats.mono _ _ _)
   | (with_reducible exact impl_EqualMessages.mono _ _ _)
   | (with_reducible exact impl_IsFormat.mono _ _)
   | (with_reducible exact impl_IsWithin.mono _ _ _)
   | (with_reducible exact impl_LostBy.mono _ _ _ _)
   | (with_reducible exact impl_MakeBytes.mono _ _ _)
   | (with_reducible exact impl_MakeMessage.mono _ _ _)
   | (with_reducible exact impl_SkipsTail.mono _ _ _ _)
   | (with_reducible exact spec_DrawBreakOf.mono _ _)
   | (with_reducible exact LeO.refl _)
   | (with_reducible exact LeO.none _)
   | (with_reducible refine LeO.ite ?_ ?_)
   | (with_reducible refine LeO.bind ?_ (fun _ => ?_))
   | exact ih0 _ _ _ _
   | exact ih1 _ _ _ _
   | exact ih2 _ _ _ _
   | exact ih3 _ _ _ _
   | exact ih4 _ _ _ _
   | exact impl_BreakOf.mono _ _ _
   | exact impl_DecodeMessage.mono _ _ _
   | exact impl_EqualFormats.mono _ _ _
   | exact impl_EqualMessages.mono _ _ _
   | exact impl_IsFormat.mono _ _
   | exact impl_IsWithin.mono _ _ _
   | exact impl_LostBy.mono _ _ _ _
   | exact impl_MakeBytes.mono _ _ _
   | exact impl_MakeMessage.mono _ _ _
   | exact impl_SkipsTail.mono _ _ _ _
   | exact spec_DrawBreakOf.mono _ _
   | exact LeO.none _
   | refine LeO.ite ?_ ?_
   | refine LeO.bind ?_ (fun _ => ?_)
  ·intro y0 y1 y2 y3
   unfold laws_FnDiffers.l0
   repeat' first
   | (with_reducible exact ih0 _ _ _ _)
   | (with_reducible exact ih1 _ _ _ _)
   | (with_reducible exact ih2 _ _ _ _)
   | (with_reducible exact ih3 _ _ _ _)
   | (with_reducible exact ih4 _ _ _ _)
   | (with_reducible exact impl_BreakOf.mono _ _ _)
   | (with_reducible exact impl_DecodeMessage.mono _ _ _)
   | (with_reducible exact impl_EqualFormats.mono _ _ _)
   | (with_reducible exact impl_EqualMessages.mono _ _ _)
   | (with_reducible exact impl_IsFormat.mono _ _)
   | (with_reducible exact impl_IsWithin.mono _ _ _)
   | (with_reducible exact impl_LostBy.mono _ _ _ _)
   | (with_reducible exact impl_MakeBytes.mono _ _ _)
   | (with_reducible exact impl_MakeMessage.mono _ _ _)
   | (with_reducible exact impl_SkipsTail.mono _ _ _ _)
   | (with_reducible exact spec_DrawBreakOf.mono _ _)
   | (with_reducible exact LeO.refl _)
   | (with_reducible exact LeO.none _)
   | (with_reducible refine LeO.ite ?_ ?_)
   | (with_reducible refine LeO.bind ?_ (fun _ => ?_))
   | exact ih0 _ _ _ _
   | exact ih1 _ _ _ _
   | exact ih2 _ _ _ _
   | exact ih3 _ _ _ _
   | exact ih4 _ _ _ _
   | exact impl_BreakOf.mono _ _ _
   | exact impl_DecodeMessage.mono _ _ _
   | exact impl_EqualFormats.mono _ _ _
   | exact impl_EqualMessages.mono _ _ _
   | exact impl_IsFormat.mono _ _
   | exact impl_IsWithin.mono _ _ _
   | exact impl_LostBy.mono _ _ _ _
   | exact impl_MakeBytes.mono _ _ _
   | exact impl_MakeMessage.mono _ _ _
   | exact impl_SkipsTail.mono _ _ _ _
   | exact spec_DrawBreakOf.mono _ _
   | exact LeO.none _
   | refine LeO.ite ?_ ?_
   | refine LeO.bind ?_ (fun _ => ?_)
  ·intro y0 y1 y2 y3
   unfold laws_FnDiffers.j4
   repeat' first
   | (with_reducible exact ih0 _ _ _ _)
   | (with_reducible exact ih1 _ _ _ _)
   | (with_reducible exact ih2 _ _ _ _)
   | (with_reducible exact ih3 _ _ _ _)
   | (with_reducible exact ih4 _ _ _ _)
   | (with_reducible exact impl_BreakOf.mono _ _ _)
   | (with_reducible exact impl_DecodeMessage.mono _ _ _)
   | (with_reducible exact impl_EqualFormats.mono _ _ _)
   | (with_reducible exact impl_EqualMessages.mono _ _ _)
   | (with_reducible exact impl_IsFormat.mono _ _)
   | (with_reducible exact impl_IsWithin.mono _ _ _)
   | (with_reducible exact impl_LostBy.mono _ _ _ _)
   | (with_reducible exact impl_MakeBytes.mono _ _ _)
   | (with_reducible exact impl_MakeMessage.mono _ _ _)
   | (with_reducible exact impl_SkipsTail.mono _ _ _ _)
   | (with_reducible exact spec_DrawBreakOf.mono _ _)
   | (with_reducible exact LeO.refl _)
   | (with_reducible exact LeO.none _)
   | (with_reducible refine LeO.ite ?_ ?_)
   | (with_reducible refine LeO.bind ?_ (fun _ => ?_))
   | exact ih0 _ _ _ _
   | exact ih1 _ _ _ _
   | exact ih2 _ _ _ _
   | exact ih3 _ _ _ _
   | exact ih4 _ _ _ _
   | exact impl_BreakOf.mono _ _ _
   | exact impl_DecodeMessage.mono _ _ _
   | exact impl_EqualFormats.mono _ _ _
   | exact impl_EqualMessages.mono _ _ _
   | exact impl_IsFormat.mono _ _
   | exact impl_IsWithin.mono _ _ _
   | exact impl_LostBy.mono _ _ _ _
   | exact impl_MakeBytes.mono _ _ _
   | exact impl_MakeMessage.mono _ _ _
   | exact impl_SkipsTail.mono _ _ _ _
   | exact spec_DrawBreakOf.mono _ _
   | exact LeO.none _
   | refine LeO.ite ?_ ?_
   | refine LeO.bind ?_ (fun _ => ?_)
theorem laws_FnDiffers.mono : ∀ a0 k, LeO (laws_FnDiffers.f k a0) (laws_FnDiffers.f (k + 1) a0) := by
 intro a0 k
 obtain ⟨ih0, ih1, ih2, ih3, ih4⟩ := laws_FnDiffers.mono_l k
 unfold laws_FnDiffers.f
 repeat' first
   | (with_reducible exact ih0 _ _ _ _)
   | (with_reducible exact ih1 _ _ _ _)
   | (with_reducible exact ih2 _ _ _ _)
   | (with_reducible exact ih3 _ _ _ _)
   | (with_reducible exact ih4 _ _ _ _)
   | (with_reducible exact impl_BreakOf.mono _ _ _)
   | (with_reducible exact impl_DecodeMessage.mono _ _ _)
   | (with_reducible exact impl_EqualFormats.mono _ _ _)
   | (with_reducible exact impl_EqualMessages.mono _ _ _)
   | (with_reducible exact impl_IsFormat.mono _ _)
   | (with_reducible exact impl_IsWithin.mono _ _ _)
   | (with_reducible exact impl_LostBy.mono _ _ _ _)
   | (with_reducible exact impl_MakeBytes.mono _ _ _)
   | (with_reducible exact impl_MakeMessage.mono _ _ _)
   | (with_reducible exact impl_SkipsTail.mono _ _ _ _)
   | (with_reducible exact spec_DrawBreakOf.mono _ _)
   | (with_reducible exact LeO.refl _)
   | (with_reducible exact LeO.none _)
   | (with_reducible refine LeO.ite ?_ ?_)
   | (with_reducible refine LeO.bind ?_ (fun _ => ?_))
   | exact ih0 _ _ _ _
   | exact ih1 _ _ _ _
   | exact ih2 _ _ _ _
   | exact ih3 _ _ _ _
   | exact ih4 _ _ _ _
   | exact impl_BreakOf.mono _ _ _
   | exact impl_DecodeMessage.mono _ _ _
   | exact impl_EqualFormats.mono _ _ _
   | exact impl_EqualMessages.mono _ _ _
   | exact impl_IsFormat.mono _ _
   | exact impl_IsWithin.mono _ _ _
   | exact impl_LostBy.mono _ _ _ _
   | exact impl_MakeBytes.mono _ _ _
   | exact impl_MakeMessage.mono _ _ _
   | exact impl_SkipsTail.mono _ _ _ _
   | exact spec_DrawBreakOf.mono _ _
   | exact LeO.none _
   | refine LeO.ite ?_ ?_
   | refine LeO.bind ?_ (fun _ => ?_)
set_option maxHeartbeats 8000000 in
set_option maxRecDepth 100000 in
theorem laws_FnDiffers.calls (k : Nat) (A0 : Option Addr) (c0 : Nat) (l0 : List Int) (r : Bool) (w : World) (hr0 : Kd.C (Kd.int .u8) w A0 l0.length l0) (hc0 : l0.length ≤ c0) (h : laws_FnDiffers.f k l0 = some r) :
  Calls Try.prog 5 #[.slice A0 l0.length c0] w fun e w' => e = .returned (.bool r) ∧ Below w.heap.size w w' := by
 have HR0 := Aside0.mk hr0
 have HC0 := Aside0.mk hc0
 clear hr0 hc0
 have HB := Aside0.mk (Below.refl w.heap.size w)
 have H : ((laws_big.f l0).bind fun t450 => (if t450 = true then (some true) else ((spec_DrawBreakOf.f k l0).bind fun bt451 => ((impl_BreakOf.f k bt451.1 bt451.2).bind fun t457 => ((impl_BreakName.f t457).bind fun t458 => (if t458.toList = ([] : List UInt8) then (laws_FnDiffers.j0 k bt451.1 bt451.2 t457 true) else ((impl_IsFormat.f k bt451.1).bind fun t459 => (if t459 = true then ((impl_EqualFormats.f k bt451.1 bt451.2).bind fun t460 => (laws_FnDiffers.j0 k bt451.1 bt451.2 t457 ((t457 == 0) != t460))) else (laws_FnDiffers.j0 k bt451.1 bt451.2 t457 ((t457 == 0) != false)))))))))) = some r := h
 clear h
 obtain ⟨t450, A2, H⟩ := bindS H
 by_cases c3 : t450 = true
 ·subst c3
  have H1 : (some true) = some r := by rw [if_pos rfl] at H; exact H
  clear H
  have H := H1
  clear H1
  obtain rfl := Option.some.inj H
  go_enter Try.func5, Try.ntmps5
  go_wp2_with (first | ((with_reducible refine gate_callee (f := 13) rfl ?_); refine goesL_ (some 12) rfl rfl Try.func13 (by kernel_rfl) rfl #[.slice A0 l0.length c0] rfl zG ?_; (with_reducible refine (laws_big.calls _ _ l0 true _ ?side1 ?side2 A2.out).mono ?_); (case side1 => exact cT HR0); (case side2 => exact HC0.out); rintro e w' ⟨rfl, ⟨nd, rfl⟩⟩; refine ⟨_, rfl, ?_⟩))
  go_ret
  exact ⟨zE, zB HB⟩
 ·replace c3 := Bool.eq_false_iff.mpr c3
  subst c3
  have H1 : ((spec_DrawBreakOf.f k l0).bind fun bt451 => ((impl_BreakOf.f k bt451.1 bt451.2).bind fun t457 => ((impl_BreakName.f t457).bind fun t458 => (if t458.toList = ([] : List UInt8) then (laws_FnDiffers.j0 k bt451.1 bt451.2 t457 true) else ((impl_IsFormat.f k bt451.1).bind fun t459 => (if t459 = true then ((impl_EqualFormats.f k bt451.1 bt451.2).bind fun t460 => (laws_FnDiffers.j0 k bt451.1 bt451.2 t457 ((t457 == 0) != t460))) else (laws_FnDiffers.j0 k bt451.1 bt451.2 t457 ((t457 == 0) != false)))))))) = some r := by rw [if_neg (show ¬ (false = true) by decide)] at H; exact H
  clear H
  have H := H1
  clear H1
  replace H := Option.bind_eq_some_iff.mp H
  obtain ⟨⟨t451, t452⟩, A40, H⟩ := H
  replace H : ((impl_BreakOf.f k t451 t452).bind fun t457 => ((impl_BreakName.f t457).bind fun t458 => (if t458.toList = ([] : List UInt8) then (laws_FnDiffers.j0 k t451 t452 t457 true) else ((impl_IsFormat.f k t451).bind fun t459 => (if t459 = true then ((impl_EqualFormats.f k t451 t452).bind fun t460 => (laws_FnDiffers.j0 k t451 t452 t457 ((t457 == 0) != t460))) else (laws_FnDiffers.j0 k t451 t452 t457 ((t457 == 0) != false))))))) = some r := H
  have A4 := Aside0.mk A40
  clear A40
  obtain ⟨t457, A5, H⟩ := bindS H
  have HC6 := Aside0.mk H
  clear H
  go_enter Try.func5, Try.ntmps5
  go_upto_region 5 with (first | ((with_reducible refine gate_callee (f := 13) rfl ?_); refine goesL_ (some 12) rfl rfl Try.func13 (by kernel_rfl) rfl #[.slice A0 l0.length c0] rfl zG ?_; (with_reducible refine (laws_big.calls _ _ l0 false _ ?side1 ?side2 A2.out).mono ?_); (case side1 => exact cT HR0); (case side2 => exact HC0.out); rintro e w' ⟨rfl, ⟨nd, rfl⟩⟩; refine ⟨_, rfl, ?_⟩) | ((with_reducible refine gate_callee (f := 14) rfl ?_); refine goesL_ (some 15) rfl rfl Try.func14 (by kernel_rfl) rfl #[.slice A0 l0.length c0] rfl zG ?_; (with_reducible refine (spec_DrawBreakOf.calls k _ _ l0 t451 t452 _ ?side1 ?side2 A4.out).mono ?_); (case side1 => exact cT HR0); (case side2 => exact HC0.out); rintro e w7 ⟨v453, v455, rfl, ho0, ho1, hb⟩; refine ⟨_, rfl, ?_⟩; have HO454 := Aside0.mk (Kd.R_lower ho0 (below_size (zB HB))); have HO456 := Aside0.mk (Kd.R_lower ho1 (below_size (zB HB))); replace HB := bS HB hb; (try clear hb); (try clear ho0); (try clear ho1); obtain ⟨Ao8, co8, eo8⟩ := Kd.R_slice HO454.out; subst eo8; obtain ⟨Ao9, co9, eo9⟩ := Kd.R_slice HO456.out; subst eo9) | ((with_reducible refine gate_callee (f := 15) rfl ?_); refine goesL_ (some 20) rfl rfl Try.func15 (by kernel_rfl) rfl #[.slice Ao8 t451.length co8, .slice Ao9 t452.length co9] rfl zG ?_; (with_reducible refine (impl_BreakOf.calls k _ _ t451 _ _ t452 t457 _ ?side1 ?side2 ?side3 ?side4 A5.out).mono ?_); (case side1 => repeat (first | exact (Kd.R_reads' HO454.out).2.2 | (with_reducible refine Kd.C_alloc ?_ _) | (with_reducible refine Kd.C_drewN ?_ _) | (with_reducible refine Kd.C_drew ?_))); (case side2 => exact (Kd.R_reads' HO454.out).2.1); (case side3 => repeat (first | exact (Kd.R_reads' HO456.out).2.2 | (with_reducible refine Kd.C_alloc ?_ _) | (with_reducible refine Kd.C_drewN ?_ _) | (with_reducible refine Kd.C_drew ?_))); (case side4 => exact (Kd.R_reads' HO456.out).2.1); rintro e w10 ⟨rfl, hb⟩; refine ⟨_, rfl, ?_⟩; replace HO454 := Aside0.mk (Kd.R_below (zR HO454) hb); replace HO456 := Aside0.mk (Kd.R_below (zR HO456) hb); replace HB := bS HB hb; (try clear hb)))
  (try simp only [Act.put, List.setIfInBounds_toArray, List.set_cons_zero, List.set_cons_succ])
  go_cut [35] (fun v35 wc => ∃ (kq : Nat) (x35_5 : Bool), v35 = .bool x35_5 ∧ Aside0 (laws_FnDiffers.j0 kq t451 t452 t457 x35_5 = some r) ∧ Aside0 (kq ≤ k) ∧ Aside0 (Kd.R k47 47 wc w.heap.size (fun k_ => some k_ ≠ ((.slice Ao9 t452.length co9) : Value).ownBlock) (.slice Ao8 t451.length co8) t451) ∧ Aside0 (Kd.R k47 47 wc w.heap.size (fun k_ => some k_ ≠ ((.slice Ao8 t451.length co8) : Value).ownBlock) (.slice Ao9 t452.length co9) t452) ∧ Aside0 (Below w.heap.size w wc))
  case first =>
   have H := HC6.out
   clear HC6
   obtain ⟨t458, A11, H⟩ := bindS H
   by_cases c12 : t458.toList = ([] : List UInt8)
   ·rw [if_pos c12] at H
    have c12b0 : (t458.toList == ([] : List UInt8)) = true := beq_iff_eq.mpr c12
    have c12b1 : (t458.toList != ([] : List UInt8)) = false := bne_eq_false_iff_eq.mpr c12
    clear c12
    (first | rw [c12b0] | (simp only [i64_w, i32_w]; rw [c12b0]) | skip)
    have H' := Aside0.mk H
    clear H
    go_wp2_with (first | ((with_reducible refine gate_callee (f := 16) rfl ?_); refine goesL_ (some 22) rfl rfl Try.func16 (by kernel_rfl) rfl #[.int .i64 t457] rfl zG ?_; (with_reducible refine (impl_BreakName.calls t457 t458 _ A11.out).mono ?_); rintro e w13 ⟨rfl, hb⟩; refine ⟨_, rfl, ?_⟩; replace HO454 := Aside0.mk (Kd.R_below (zR HO454) hb); replace HO456 := Aside0.mk (Kd.R_below (zR HO456) hb); replace HB := bS HB hb; (try clear hb)))
    go_meet
    case rel => exact ⟨_, (true), zF, H', ⟨by first | omega | exact Nat.le_refl _⟩, ⟨zR HO454⟩, ⟨zR HO456⟩, ⟨zB HB⟩⟩
   ·rw [if_neg c12] at H
    have c12b0 : (t458.toList == ([] : List UInt8)) = false := beq_eq_false_iff_ne.mpr c12
    have c12b1 : (t458.toList != ([] : List UInt8)) = true := bne_iff_ne.mpr c12
    (first | rw [c12b0] | (simp only [i64_w, i32_w]; rw [c12b0]) | skip)
    obtain ⟨t459, A14, H⟩ := bindS H
    by_cases c15 : t459 = true
    ·subst c15
     have H1 : ((impl_EqualFormats.f k t451 t452).bind fun t460 => (laws_FnDiffers.j0 k t451 t452 t457 ((t457 == 0) != t460))) = some r := by rw [if_pos rfl] at H; exact H
     clear H
     have H := H1
     clear H1
     obtain ⟨t460, A16, H⟩ := bindS H
     have H' := Aside0.mk H
     clear H
     go_wp2_with (first | ((with_reducible refine gate_callee (f := 16) rfl ?_); refine goesL_ (some 22) rfl rfl Try.func16 (by kernel_rfl) rfl #[.int .i64 t457] rfl zG ?_; (with_reducible refine (impl_BreakName.calls t457 t458 _ A11.out).mono ?_); rintro e w17 ⟨rfl, hb⟩; refine ⟨_, rfl, ?_⟩; replace HO454 := Aside0.mk (Kd.R_below (zR HO454) hb); replace HO456 := Aside0.mk (Kd.R_below (zR HO456) hb); replace HB := bS HB hb; (try clear hb)) | (go_at_call 17; (with_reducible refine (impl_IsFormat.calls k _ _ t451 true _ ?side1 ?side2 A14.out).mono ?_); (case side1 => repeat (first | exact (Kd.R_reads' HO454.out).2.2 | (with_reducible refine Kd.C_alloc ?_ _) | (with_reducible refine Kd.C_drewN ?_ _) | (with_reducible refine Kd.C_drew ?_))); (case side2 => exact (Kd.R_reads' HO454.out).2.1); rintro e w18 ⟨rfl, hb⟩; replace HO454 := Aside0.mk (Kd.R_below (zR HO454) hb); replace HO456 := Aside0.mk (Kd.R_below (zR HO456) hb); replace HB := bS HB hb; (try clear hb)) | (go_at_call 18; (with_reducible refine (impl_EqualFormats.calls k _ _ t451 _ _ t452 t460 _ ?side1 ?side2 ?side3 ?side4 A16.out).mono ?_); (case side1 => repeat (first | exact (Kd.R_reads' HO454.out).2.2 | (with_reducible refine Kd.C_alloc ?_ _) | (with_reducible refine Kd.C_drewN ?_ _) | (with_reducible refine Kd.C_drew ?_))); (case side2 => exact (Kd.R_reads' HO454.out).2.1); (case side3 => repeat (first | exact (Kd.R_reads' HO456.out).2.2 | (with_reducible refine Kd.C_alloc ?_ _) | (with_reducible refine Kd.C_drewN ?_ _) | (with_reducible refine Kd.C_drew ?_))); (case side4 => exact (Kd.R_reads' HO456.out).2.1); rintro e w' ⟨rfl, ⟨nd, rfl⟩⟩))
     go_meet
     case rel => exact ⟨_, (((t457 == 0) != t460)), zF, H', ⟨by first | omega | exact Nat.le_refl _⟩, ⟨zR HO454⟩, ⟨zR HO456⟩, ⟨zB HB⟩⟩
    ·replace c15 := Bool.eq_false_iff.mpr c15
     subst c15
     have H1 : (laws_FnDiffers.j0 k t451 t452 t457 ((t457 == 0) != false)) = some r := by rw [if_neg (show ¬ (false = true) by decide)] at H; exact H
     clear H
     have H := H1
     clear H1
     have H' := Aside0.mk H
     clear H
     go_wp2_with (first | ((with_reducible refine gate_callee (f := 16) rfl ?_); refine goesL_ (some 22) rfl rfl Try.func16 (by kernel_rfl) rfl #[.int .i64 t457] rfl zG ?_; (with_reducible refine (impl_BreakName.calls t457 t458 _ A11.out).mono ?_); rintro e w19 ⟨rfl, hb⟩; refine ⟨_, rfl, ?_⟩; replace HO454 := Aside0.mk (Kd.R_below (zR HO454) hb); replace HO456 := Aside0.mk (Kd.R_below (zR HO456) hb); replace HB := bS HB hb; (try clear hb)) | (go_at_call 17; (with_reducible refine (impl_IsFormat.calls k _ _ t451 false _ ?side1 ?side2 A14.out).mono ?_); (case side1 => repeat (first | exact (Kd.R_reads' HO454.out).2.2 | (with_reducible refine Kd.C_alloc ?_ _) | (with_reducible refine Kd.C_drewN ?_ _) | (with_reducible refine Kd.C_drew ?_))); (case side2 => exact (Kd.R_reads' HO454.out).2.1); rintro e w20 ⟨rfl, hb⟩; replace HO454 := Aside0.mk (Kd.R_below (zR HO454) hb); replace HO456 := Aside0.mk (Kd.R_below (zR HO456) hb); replace HB := bS HB hb; (try clear hb)))
     go_meet
     case rel => exact ⟨_, (((t457 == 0) != false)), zF, H', ⟨by first | omega | exact Nat.le_refl _⟩, ⟨zR HO454⟩, ⟨zR HO456⟩, ⟨zB HB⟩⟩
  case rest =>
   clear HC6
   try clear c1
   try clear p2
   try clear c3
   try clear c5
   try clear c12
   try clear c12b0
   try clear c12b1
   try clear c13
   try clear c14
   try clear c15
   try clear c16
   obtain ⟨kq, x35_5, rfl, HA, HJ5, HO_3, HO_4, HB⟩ := hcut
   cases kq with
   | zero => exact absurd HA.out (by simp [laws_FnDiffers.j0])
   | succ kj5 =>
    have H := HA.out
    clear HA
    simp only [laws_FnDiffers.j0] at H
    by_cases c21 : x35_5 = true
    ·subst c21
     have H1 : (some false) = some r := by rw [if_pos rfl] at H; exact H
     clear H
     have H := H1
     clear H1
     obtain rfl := Option.some.inj H
     go_wp2
     go_ret
     exact ⟨zE, zB HB⟩
    ·replace c21 := Bool.eq_false_iff.mpr c21
     subst c21
     have H1 : ((impl_BreakOf.f kj5 t452 t451).bind fun t461 => (if t457 = 1 then (if t461 = 3 then (if t457 = 3 then (laws_FnDiffers.j1 kj5 t451 t452 t457 (t461 != 1)) else (laws_FnDiffers.j1 kj5 t451 t452 t457 false)) else (laws_FnDiffers.j1 kj5 t451 t452 t457 true)) else (if t457 = 3 then (laws_FnDiffers.j1 kj5 t451 t452 t457 (t461 != 1)) else (laws_FnDiffers.j1 kj5 t451 t452 t457 false)))) = some r := by rw [if_neg (show ¬ (false = true) by decide)] at H; exact H
     clear H
     have H := H1
     clear H1
     obtain ⟨t461, A22, H⟩ := bindS H
     have HC23 := Aside0.mk H
     clear H
     go_upto_region 8 with (first | ((with_reducible refine gate_callee (f := 15) rfl ?_); refine goesL_ (some 38) rfl rfl Try.func15 (by kernel_rfl) rfl #[.slice Ao9 t452.length co9, .slice Ao8 t451.length co8] rfl zG ?_; (with_reducible refine (impl_BreakOf.calls kj5 _ _ t452 _ _ t451 t461 _ ?side1 ?side2 ?side3 ?side4 A22.out).mono ?_); (case side1 => repeat (first | exact (Kd.R_reads' HO_4.out).2.2 | (with_reducible refine Kd.C_alloc ?_ _) | (with_reducible refine Kd.C_drewN ?_ _) | (with_reducible refine Kd.C_drew ?_))); (case side2 => exact (Kd.R_reads' HO_4.out).2.1); (case side3 => repeat (first | exact (Kd.R_reads' HO_3.out).2.2 | (with_reducible refine Kd.C_alloc ?_ _) | (with_reducible refine Kd.C_drewN ?_ _) | (with_reducible refine Kd.C_drew ?_))); (case side4 => exact (Kd.R_reads' HO_3.out).2.1); rintro e w24 ⟨rfl, hb⟩; refine ⟨_, rfl, ?_⟩; replace HO_3 := Aside0.mk (Kd.R_below (zR HO_3) hb); replace HO_4 := Aside0.mk (Kd.R_below (zR HO_4) hb); replace HB := bS HB hb; (try clear hb)))
     (try simp only [Act.put, List.setIfInBounds_toArray, List.set_cons_zero, List.set_cons_succ])
     go_cut [52] (fun v52 wc => ∃ (kq : Nat) (x52_22 : Bool), v52 = .bool x52_22 ∧ Aside0 (laws_FnDiffers.j1 kq t451 t452 t457 x52_22 = some r) ∧ Aside0 (kq ≤ kj5) ∧ Aside0 (Kd.R k47 47 wc w.heap.size (fun k_ => some k_ ≠ ((.slice Ao9 t452.length co9) : Value).ownBlock) (.slice Ao8 t451.length co8) t451) ∧ Aside0 (Kd.R k47 47 wc w.heap.size (fun k_ => some k_ ≠ ((.slice Ao8 t451.length co8) : Value).ownBlock) (.slice Ao9 t452.length co9) t452) ∧ Aside0 (Below w.heap.size w wc))
     case first =>
      have H := HC23.out
      clear HC23
      by_cases c25 : t457 = 1
      ·rw [if_pos c25] at H
       have c25b0 : (t457 == 1) = true := beq_iff_eq.mpr c25
       have c25b1 : (t457 != 1) = false := bne_eq_false_iff_eq.mpr c25
       clear c25
       (first | rw [c25b0] | (simp only [i64_w, i32_w]; rw [c25b0]) | skip)
       by_cases c26 : t461 = 3
       ·rw [if_pos c26] at H
        have c26b0 : (t461 == 3) = true := beq_iff_eq.mpr c26
        have c26b1 : (t461 != 3) = false := bne_eq_false_iff_eq.mpr c26
        clear c26
        by_cases c27 : t457 = 3
        ·rw [if_pos c27] at H
         have c27b0 : (t457 == 3) = true := beq_iff_eq.mpr c27
         have c27b1 : (t457 != 3) = false := bne_eq_false_iff_eq.mpr c27
         clear c27
         have H' := Aside0.mk H
         clear H
         go_wp2
         go_meet
         case rel => exact ⟨_, ((t461 != 1)), zF, H', ⟨by have := HJ5.out; first | omega | exact Nat.le_refl _⟩, ⟨zR HO_3⟩, ⟨zR HO_4⟩, ⟨zB HB⟩⟩
        ·rw [if_neg c27] at H
         have c27b0 : (t457 == 3) = false := beq_eq_false_iff_ne.mpr c27
         have c27b1 : (t457 != 3) = true := bne_iff_ne.mpr c27
         have H' := Aside0.mk H
         clear H
         go_wp2
         go_meet
         case rel => exact ⟨_, (false), zF, H', ⟨by have := HJ5.out; first | omega | exact Nat.le_refl _⟩, ⟨zR HO_3⟩, ⟨zR HO_4⟩, ⟨zB HB⟩⟩
       ·rw [if_neg c26] at H
        have c26b0 : (t461 == 3) = false := beq_eq_false_iff_ne.mpr c26
        have c26b1 : (t461 != 3) = true := bne_iff_ne.mpr c26
        have H' := Aside0.mk H
        clear H
        go_wp2
        go_meet
        case rel => exact ⟨_, (true), zF, H', ⟨by have := HJ5.out; first | omega | exact Nat.le_refl _⟩, ⟨zR HO_3⟩, ⟨zR HO_4⟩, ⟨zB HB⟩⟩
      ·rw [if_neg c25] at H
       have c25b0 : (t457 == 1) = false := beq_eq_false_iff_ne.mpr c25
       have c25b1 : (t457 != 1) = true := bne_iff_ne.mpr c25
       (first | rw [c25b0] | (simp only [i64_w, i32_w]; rw [c25b0]) | skip)
       by_cases c28 : t457 = 3
       ·rw [if_pos c28] at H
        have c28b0 : (t457 == 3) = true := beq_iff_eq.mpr c28
        have c28b1 : (t457 != 3) = false := bne_eq_false_iff_eq.mpr c28
        clear c28
        have H' := Aside0.mk H
        clear H
        go_wp2
        go_meet
        case rel => exact ⟨_, ((t461 != 1)), zF, H', ⟨by have := HJ5.out; first | omega | exact Nat.le_refl _⟩, ⟨zR HO_3⟩, ⟨zR HO_4⟩, ⟨zB HB⟩⟩
       ·rw [if_neg c28] at H
        have c28b0 : (t457 == 3) = false := beq_eq_false_iff_ne.mpr c28
        have c28b1 : (t457 != 3) = true := bne_iff_ne.mpr c28
        have H' := Aside0.mk H
        clear H
        go_wp2
        go_meet
        case rel => exact ⟨_, (false), zF, H', ⟨by have := HJ5.out; first | omega | exact Nat.le_refl _⟩, ⟨zR HO_3⟩, ⟨zR HO_4⟩, ⟨zB HB⟩⟩
     case rest =>
      clear HC23
      try clear c1
      try clear c2
      try clear p2
      try clear c3
      try clear c5
      try clear c12
      try clear c12b0
      try clear c12b1
      try clear c13
      try clear c14
      try clear c15
      try clear c16
      try clear c21
      try clear c25
      try clear c25b0
      try clear c25b1
      try clear c26
      try clear c26b0
      try clear c26b1
      try clear c27
      try clear c27b0
      try clear c27b1
      try clear c28
      try clear c28b0
      try clear c28b1
      try clear p2
      obtain ⟨kq, x52_22, rfl, HA, HJ22, HO_3, HO_4, HB⟩ := hcut
      cases kq with
      | zero => exact absurd HA.out (by simp [laws_FnDiffers.j1])
      | succ kj22 =>
       have H := HA.out
       clear HA
       simp only [laws_FnDiffers.j1] at H
       by_cases c29 : x52_22 = true
       ·subst c29
        have H1 : (some false) = some r := by rw [if_pos rfl] at H; exact H
        clear H
        have H := H1
        clear H1
        obtain rfl := Option.some.inj H
        go_wp2
        go_ret
        exact ⟨zE, zB HB⟩
       ·replace c29 := Bool.eq_false_iff.mpr c29
        subst c29
        have H1 : ((impl_IsWithin.f kj22 t451 t452).bind fun t462 => (if t462 = true then ((impl_LostBy.f kj22 t451 t452 12).bind fun t463 => (laws_FnDiffers.j2 kj22 t451 t452 t457 (t463 != 0))) else (laws_FnDiffers.j2 kj22 t451 t452 t457 false))) = some r := by rw [if_neg (show ¬ (false = true) by decide)] at H; exact H
        clear H
        have H := H1
        clear H1
        have HC30 := Aside0.mk H
        clear H
        go_upto_region 10 with (fail)
        go_cut [61] (fun v61 wc => ∃ (kq : Nat) (x61_29 : Bool), v61 = .bool x61_29 ∧ Aside0 (laws_FnDiffers.j2 kq t451 t452 t457 x61_29 = some r) ∧ Aside0 (kq ≤ kj22) ∧ Aside0 (Kd.R k47 47 wc w.heap.size (fun k_ => some k_ ≠ ((.slice Ao9 t452.length co9) : Value).ownBlock) (.slice Ao8 t451.length co8) t451) ∧ Aside0 (Kd.R k47 47 wc w.heap.size (fun k_ => some k_ ≠ ((.slice Ao8 t451.length co8) : Value).ownBlock) (.slice Ao9 t452.length co9) t452) ∧ Aside0 (Below w.heap.size w wc))
        case first =>
         have H := HC30.out
         clear HC30
         obtain ⟨t462, A31, H⟩ := bindS H
         by_cases c32 : t462 = true
         ·subst c32
          have H1 : ((impl_LostBy.f kj22 t451 t452 12).bind fun t463 => (laws_FnDiffers.j2 kj22 t451 t452 t457 (t463 != 0))) = some r := by rw [if_pos rfl] at H; exact H
          clear H
          have H := H1
          clear H1
          obtain ⟨t463, A33, H⟩ := bindS H
          have H' := Aside0.mk H
          clear H
          go_wp2_with (first | ((with_reducible refine gate_callee (f := 19) rfl ?_); refine goesL_ (some 55) rfl rfl Try.func19 (by kernel_rfl) rfl #[.slice Ao8 t451.length co8, .slice Ao9 t452.length co9] rfl zG ?_; (with_reducible refine (impl_IsWithin.calls kj22 _ _ t451 _ _ t452 true _ ?side1 ?side2 ?side3 ?side4 A31.out).mono ?_); (case side1 => repeat (first | exact (Kd.R_reads' HO_3.out).2.2 | (with_reducible refine Kd.C_alloc ?_ _) | (with_reducible refine Kd.C_drewN ?_ _) | (with_reducible refine Kd.C_drew ?_))); (case side2 => exact (Kd.R_reads' HO_3.out).2.1); (case side3 => repeat (first | exact (Kd.R_reads' HO_4.out).2.2 | (with_reducible refine Kd.C_alloc ?_ _) | (with_reducible refine Kd.C_drewN ?_ _) | (with_reducible refine Kd.C_drew ?_))); (case side4 => exact (Kd.R_reads' HO_4.out).2.1); rintro e w34 ⟨rfl, hb⟩; refine ⟨_, rfl, ?_⟩; replace HO_3 := Aside0.mk (Kd.R_below (zR HO_3) hb); replace HO_4 := Aside0.mk (Kd.R_below (zR HO_4) hb); replace HB := bS HB hb; (try clear hb)) | (go_at_call 12; (with_reducible refine (impl_LostBy.calls kj22 _ _ t451 _ _ t452 12 t463 _ ?side1 ?side2 ?side3 ?side4 A33.out).mono ?_); (case side1 => repeat (first | exact (Kd.R_reads' HO_3.out).2.2 | (with_reducible refine Kd.C_alloc ?_ _) | (with_reducible refine Kd.C_drewN ?_ _) | (with_reducible refine Kd.C_drew ?_))); (case side2 => exact (Kd.R_reads' HO_3.out).2.1); (case side3 => repeat (first | exact (Kd.R_reads' HO_4.out).2.2 | (with_reducible refine Kd.C_alloc ?_ _) | (with_reducible refine Kd.C_drewN ?_ _) | (with_reducible refine Kd.C_drew ?_))); (case side4 => exact (Kd.R_reads' HO_4.out).2.1); rintro e w35 ⟨rfl, hb⟩; replace HO_3 := Aside0.mk (Kd.R_below (zR HO_3) hb); replace HO_4 := Aside0.mk (Kd.R_below (zR HO_4) hb); replace HB := bS HB hb; (try clear hb)))
          go_meet
          case rel => exact ⟨_, ((t463 != 0)), zF, H', ⟨by have := HJ5.out; have := HJ22.out; first | omega | exact Nat.le_refl _⟩, ⟨zR HO_3⟩, ⟨zR HO_4⟩, ⟨zB HB⟩⟩
         ·replace c32 := Bool.eq_false_iff.mpr c32
          subst c32
          have H1 : (laws_FnDiffers.j2 kj22 t451 t452 t457 false) = some r := by rw [if_neg (show ¬ (false = true) by decide)] at H; exact H
          clear H
          have H := H1
          clear H1
          have H' := Aside0.mk H
          clear H
          go_wp2_with (first | ((with_reducible refine gate_callee (f := 19) rfl ?_); refine goesL_ (some 55) rfl rfl Try.func19 (by kernel_rfl) rfl #[.slice Ao8 t451.length co8, .slice Ao9 t452.length co9] rfl zG ?_; (with_reducible refine (impl_IsWithin.calls kj22 _ _ t451 _ _ t452 false _ ?side1 ?side2 ?side3 ?side4 A31.out).mono ?_); (case side1 => repeat (first | exact (Kd.R_reads' HO_3.out).2.2 | (with_reducible refine Kd.C_alloc ?_ _) | (with_reducible refine Kd.C_drewN ?_ _) | (with_reducible refine Kd.C_drew ?_))); (case side2 => exact (Kd.R_reads' HO_3.out).2.1); (case side3 => repeat (first | exact (Kd.R_reads' HO_4.out).2.2 | (with_reducible refine Kd.C_alloc ?_ _) | (with_reducible refine Kd.C_drewN ?_ _) | (with_reducible refine Kd.C_drew ?_))); (case side4 => exact (Kd.R_reads' HO_4.out).2.1); rintro e w36 ⟨rfl, hb⟩; refine ⟨_, rfl, ?_⟩; replace HO_3 := Aside0.mk (Kd.R_below (zR HO_3) hb); replace HO_4 := Aside0.mk (Kd.R_below (zR HO_4) hb); replace HB := bS HB hb; (try clear hb)))
          go_meet
          case rel => exact ⟨_, (false), zF, H', ⟨by have := HJ5.out; have := HJ22.out; first | omega | exact Nat.le_refl _⟩, ⟨zR HO_3⟩, ⟨zR HO_4⟩, ⟨zB HB⟩⟩
        case rest =>
         clear HC30
         try clear c1
         try clear c2
         try clear p2
         try clear c3
         try clear c5
         try clear c12
         try clear c12b0
         try clear c12b1
         try clear c13
         try clear c14
         try clear c15
         try clear c16
         try clear c19
         try clear c21
         try clear c25
         try clear c25b0
         try clear c25b1
         try clear c26
         try clear c26b0
         try clear c26b1
         try clear c27
         try clear c27b0
         try clear c27b1
         try clear c28
         try clear c28b0
         try clear c28b1
         try clear c29
         try clear c32
         try clear p2
         obtain ⟨kq, x61_29, rfl, HA, HJ29, HO_3, HO_4, HB⟩ := hcut
         cases kq with
         | zero => exact absurd HA.out (by simp [laws_FnDiffers.j2])
         | succ kj29 =>
          have H := HA.out
          clear HA
          simp only [laws_FnDiffers.j2] at H
          by_cases c37 : x61_29 = true
          ·subst c37
           have H1 : (some false) = some r := by rw [if_pos rfl] at H; exact H
           clear H
           have H := H1
           clear H1
           obtain rfl := Option.some.inj H
           go_wp2
           go_ret
           exact ⟨zE, zB HB⟩
          ·replace c37 := Bool.eq_false_iff.mpr c37
           subst c37
           have H1 : (laws_FnDiffers.l0 kj29 t451 t452 t457 0) = some r := by rw [if_neg (show ¬ (false = true) by decide)] at H; exact H
           clear H
           have H := H1
           clear H1
           have H' := Aside0.mk H
           clear H
           go_wp2
           go_loopg [7] kj29 (fun kq v7 w' => ∃ (x7_4 : Int), v7 = .int .i64 x7_4 ∧ Aside0 (laws_FnDiffers.l0 kq t451 t452 t457 x7_4 = some r) ∧ Aside0 (kq ≤ kj29) ∧ Aside0 (Kd.R k47 47 w' w.heap.size (fun k_ => some k_ ≠ ((.slice Ao9 t452.length co9) : Value).ownBlock) (.slice Ao8 t451.length co8) t451) ∧ Aside0 (Kd.R k47 47 w' w.heap.size (fun k_ => some k_ ≠ ((.slice Ao8 t451.length co8) : Value).ownBlock) (.slice Ao9 t452.length co9) t452) ∧ Aside0 (Below w.heap.size w w'))
           case atStart => exact ⟨(0), zF, H', ⟨Nat.le_refl _⟩, ⟨zR HO_3⟩, ⟨zR HO_4⟩, ⟨zB HB⟩⟩
           case round =>
            clear H'
            try clear c1
            try clear c2
            try clear p2
            try clear c3
            try clear c5
            try clear c12
            try clear c12b0
            try clear c12b1
            try clear c13
            try clear c14
            try clear c15
            try clear c16
            try clear c19
            try clear c21
            try clear c25
            try clear c25b0
            try clear c25b1
            try clear c26
            try clear c26b0
            try clear c26b1
            try clear c27
            try clear c27b0
            try clear c27b1
            try clear c28
            try clear c28b0
            try clear c28b1
            try clear c29
            try clear c32
            try clear c37
            try clear p2
            obtain ⟨x7_4, rfl, HA, HK4, HO_3, HO_4, HB⟩ := hrel
            cases gk with
            | zero => exact absurd HA.out (by simp [laws_FnDiffers.l0])
            | succ k4 =>
             have H := HA.out
             clear HA
             simp only [laws_FnDiffers.l0] at H
             by_cases c38 : x7_4 < 5
             ·rw [if_pos c38] at H
              have c38b0 : decide (x7_4 < 5) = true := decide_eq_true c38
              clear c38
              obtain ⟨t464, A39, H⟩ := bindS H
              obtain ⟨t467, A40, H⟩ := bindS H
              have HC41 := Aside0.mk H
              clear H
              go_upto_if 71 with (first | ((with_reducible refine gate_callee (f := 20) rfl ?_); refine goesL_ (some 68) rfl rfl Try.func20 (by kernel_rfl) rfl #[.slice Ao8 t451.length co8, .int .i64 x7_4] rfl zG ?_; (with_reducible refine (impl_MakeBytes.calls k4 _ _ t451 x7_4 t464 _ ?side1 ?side2 A39.out).mono ?_); (case side1 => repeat (first | exact (Kd.R_reads' HO_3.out).2.2 | (with_reducible refine Kd.C_alloc ?_ _) | (with_reducible refine Kd.C_drewN ?_ _) | (with_reducible refine Kd.C_drew ?_))); (case side2 => exact (Kd.R_reads' HO_3.out).2.1); rintro e w42 ⟨v465, rfl, ho0, hb⟩; refine ⟨_, rfl, ?_⟩; replace HO_3 := Aside0.mk (Kd.R_below (zR HO_3) hb); replace HO_4 := Aside0.mk (Kd.R_below (zR HO_4) hb); have HO466 := Aside0.mk (Kd.R_lower ho0 (below_size (zB HB))); replace HB := bS HB hb; (try clear hb); (try clear ho0)) | ((with_reducible refine gate_callee (f := 19) rfl ?_); refine goesL_ (some 71) rfl rfl Try.func19 (by kernel_rfl) rfl #[.slice Ao8 t451.length co8, .slice Ao9 t452.length co9] rfl zG ?_; (with_reducible refine (impl_IsWithin.calls k4 _ _ t451 _ _ t452 t467 _ ?side1 ?side2 ?side3 ?side4 A40.out).mono ?_); (case side1 => repeat (first | exact (Kd.R_reads' HO_3.out).2.2 | (with_reducible refine Kd.C_alloc ?_ _) | (with_reducible refine Kd.C_drewN ?_ _) | (with_reducible refine Kd.C_drew ?_))); (case side2 => exact (Kd.R_reads' HO_3.out).2.1); (case side3 => repeat (first | exact (Kd.R_reads' HO_4.out).2.2 | (with_reducible refine Kd.C_alloc ?_ _) | (with_reducible refine Kd.C_drewN ?_ _) | (with_reducible refine Kd.C_drew ?_))); (case side4 => exact (Kd.R_reads' HO_4.out).2.1); rintro e w43 ⟨rfl, hb⟩; refine ⟨_, rfl, ?_⟩; replace HO_3 := Aside0.mk (Kd.R_below (zR HO_3) hb); replace HO_4 := Aside0.mk (Kd.R_below (zR HO_4) hb); replace HO466 := Aside0.mk (Kd.R_below (zR HO466) hb); replace HB := bS HB hb; (try clear hb)))
              (try simp only [Act.put, List.setIfInBounds_toArray, List.set_cons_zero, List.set_cons_succ])
              go_cut [] (fun wc => ∃ (kq : Nat), Aside0 (laws_FnDiffers.j4 kq t451 t452 t457 x7_4 = some r) ∧ Aside0 (kq ≤ k4) ∧ Aside0 (Kd.R k47 47 wc w.heap.size (fun k_ => some k_ ≠ ((.slice Ao9 t452.length co9) : Value).ownBlock) (.slice Ao8 t451.length co8) t451) ∧ Aside0 (Kd.R k47 47 wc w.heap.size (fun k_ => some k_ ≠ ((.slice Ao8 t451.length co8) : Value).ownBlock) (.slice Ao9 t452.length co9) t452) ∧ Aside0 (Below w.heap.size w wc))
              case first =>
               have H := HC41.out
               clear HC41
               by_cases c44 : t467 = true
               ·subst c44
                have H1 : ((impl_DecodeMessage.f k4 t452 t464).bind fun bt468 => (if bt468.2 = true then ((impl_MakeMessage.f k4 t451 x7_4).bind fun t472 => ((impl_EqualMessages.f k4 bt468.1 t472).bind fun t475 => (if t475 = true then (laws_FnDiffers.j4 k4 t451 t452 t457 x7_4) else (some false)))) else (some false))) = some r := by rw [if_pos rfl] at H; exact H
                clear H
                have H := H1
                clear H1
                replace H := Option.bind_eq_some_iff.mp H
                obtain ⟨⟨t468, t469⟩, A450, H⟩ := H
                replace H : (if t469 = true then ((impl_MakeMessage.f k4 t451 x7_4).bind fun t472 => ((impl_EqualMessages.f k4 t468 t472).bind fun t475 => (if t475 = true then (laws_FnDiffers.j4 k4 t451 t452 t457 x7_4) else (some false)))) else (some false)) = some r := H
                have A45 := Aside0.mk A450
                clear A450
                by_cases c46 : t469 = true
                ·subst c46
                 have H1 : ((impl_MakeMessage.f k4 t451 x7_4).bind fun t472 => ((impl_EqualMessages.f k4 t468 t472).bind fun t475 => (if t475 = true then (laws_FnDiffers.j4 k4 t451 t452 t457 x7_4) else (some false)))) = some r := by rw [if_pos rfl] at H; exact H
                 clear H
                 have H := H1
                 clear H1
                 obtain ⟨t472, A47, H⟩ := bindS H
                 obtain ⟨t475, A48, H⟩ := bindS H
                 by_cases c49 : t475 = true
                 ·subst c49
                  have H1 : (laws_FnDiffers.j4 k4 t451 t452 t457 x7_4) = some r := by rw [if_pos rfl] at H; exact H
                  clear H
                  have H := H1
                  clear H1
                  have H' := Aside0.mk H
                  clear H
                  obtain ⟨Ao50, co50, eo50⟩ := Kd.R_slice HO466.out
                  subst eo50
                  go_wp2_with (first | ((with_reducible refine gate_callee (f := 21) rfl ?_); refine goesL_ (some 75) rfl rfl Try.func21 (by kernel_rfl) rfl #[.slice Ao9 t452.length co9, .slice Ao50 t464.length co50] rfl zG ?_; (with_reducible refine (impl_DecodeMessage.calls k4 _ _ t452 _ _ t464 t468 true _ ?side1 ?side2 ?side3 ?side4 A45.out).mono ?_); (case side1 => repeat (first | exact (Kd.R_reads' HO_4.out).2.2 | (with_reducible refine Kd.C_alloc ?_ _) | (with_reducible refine Kd.C_drewN ?_ _) | (with_reducible refine Kd.C_drew ?_))); (case side2 => exact (Kd.R_reads' HO_4.out).2.1); (case side3 => repeat (first | exact (Kd.R_reads' HO466.out).2.2 | (with_reducible refine Kd.C_alloc ?_ _) | (with_reducible refine Kd.C_drewN ?_ _) | (with_reducible refine Kd.C_drew ?_))); (case side4 => exact (Kd.R_reads' HO466.out).2.1); rintro e w51 ⟨v470, rfl, ho0, hb⟩; refine ⟨_, rfl, ?_⟩; replace HO_3 := Aside0.mk (Kd.R_below (zR HO_3) hb); replace HO_4 := Aside0.mk (Kd.R_below (zR HO_4) hb); have HO471 := Aside0.mk (Kd.S_lower (Kd.S_new' ho0 (Kd.R_lt (zR HO466))) (below_size (zB HB))); replace HO466 := Aside0.mk (Kd.R_below (zR HO466) hb); replace HB := bS HB hb; (try clear hb); (try clear ho0)) | (go_at_call 23; (with_reducible refine (impl_MakeMessage.calls k4 _ _ t451 x7_4 t472 _ ?side1 ?side2 A47.out).mono ?_); (case side1 => repeat (first | exact (Kd.R_reads' HO_3.out).2.2 | (with_reducible refine Kd.C_alloc ?_ _) | (with_reducible refine Kd.C_drewN ?_ _) | (with_reducible refine Kd.C_drew ?_))); (case side2 => exact (Kd.R_reads' HO_3.out).2.1); rintro e w52 ⟨v473, rfl, ho0, hb⟩; replace HO_3 := Aside0.mk (Kd.R_below (zR HO_3) hb); replace HO_4 := Aside0.mk (Kd.R_below (zR HO_4) hb); have HO474 := Aside0.mk (Kd.S_lower (Kd.S_new' (Kd.S_new' ho0 (Kd.R_lt (zR HO466))) (Kd.S_lt (zS HO471))) (below_size (zB HB))); replace HO466 := Aside0.mk (Kd.R_below (zR HO466) hb); replace HO471 := Aside0.mk (Kd.S_elder' (zS HO471) (Kd.S_base ho0) hb); replace HB := bS HB hb; (try clear hb); (try clear ho0); obtain ⟨Ao53, co53, eo53⟩ := Kd.S_slice HO471.out; subst eo53; obtain ⟨Ao54, co54, eo54⟩ := Kd.S_slice HO474.out; subst eo54) | (go_at_call 22; (with_reducible refine (impl_EqualMessages.calls k4 _ _ t468 _ _ t472 true _ ?side1 ?side2 ?side3 ?side4 A48.out).mono ?_); (case side1 => repeat (first | exact (Kd.S_reads' HO471.out).2.2 | (with_reducible refine Kd.C_alloc ?_ _) | (with_reducible refine Kd.C_drewN ?_ _) | (with_reducible refine Kd.C_drew ?_))); (case side2 => exact (Kd.S_reads' HO471.out).2.1); (case side3 => repeat (first | exact (Kd.S_reads' HO474.out).2.2 | (with_reducible refine Kd.C_alloc ?_ _) | (with_reducible refine Kd.C_drewN ?_ _) | (with_reducible refine Kd.C_drew ?_))); (case side4 => exact (Kd.S_reads' HO474.out).2.1); rintro e w55 ⟨rfl, hb⟩; replace HO_3 := Aside0.mk (Kd.R_below (zR HO_3) hb); replace HO_4 := Aside0.mk (Kd.R_below (zR HO_4) hb); replace HO466 := Aside0.mk (Kd.R_below (zR HO466) hb); replace HO471 := Aside0.mk (Kd.S_below (zS HO471) hb); replace HO474 := Aside0.mk (Kd.S_below (zS HO474) hb); replace HB := bS HB hb; (try clear hb)))
                  go_meet
                  case rel => exact ⟨_, H', ⟨by have := HJ5.out; have := HJ22.out; have := HJ29.out; have := HK4.out; first | omega | exact Nat.le_refl _⟩, ⟨zR HO_3⟩, ⟨zR HO_4⟩, ⟨zB HB⟩⟩
                 ·replace c49 := Bool.eq_false_iff.mpr c49
                  subst c49
                  have H1 : (some false) = some r := by rw [if_neg (show ¬ (false = true) by decide)] at H; exact H
                  clear H
                  have H := H1
                  clear H1
                  obtain rfl := Option.some.inj H
                  obtain ⟨Ao56, co56, eo56⟩ := Kd.R_slice HO466.out
                  subst eo56
                  go_wp2_with (first | ((with_reducible refine gate_callee (f := 21) rfl ?_); refine goesL_ (some 75) rfl rfl Try.func21 (by kernel_rfl) rfl #[.slice Ao9 t452.length co9, .slice Ao56 t464.length co56] rfl zG ?_; (with_reducible refine (impl_DecodeMessage.calls k4 _ _ t452 _ _ t464 t468 true _ ?side1 ?side2 ?side3 ?side4 A45.out).mono ?_); (case side1 => repeat (first | exact (Kd.R_reads' HO_4.out).2.2 | (with_reducible refine Kd.C_alloc ?_ _) | (with_reducible refine Kd.C_drewN ?_ _) | (with_reducible refine Kd.C_drew ?_))); (case side2 => exact (Kd.R_reads' HO_4.out).2.1); (case side3 => repeat (first | exact (Kd.R_reads' HO466.out).2.2 | (with_reducible refine Kd.C_alloc ?_ _) | (with_reducible refine Kd.C_drewN ?_ _) | (with_reducible refine Kd.C_drew ?_))); (case side4 => exact (Kd.R_reads' HO466.out).2.1); rintro e w57 ⟨v470, rfl, ho0, hb⟩; refine ⟨_, rfl, ?_⟩; replace HO_3 := Aside0.mk (Kd.R_below (zR HO_3) hb); replace HO_4 := Aside0.mk (Kd.R_below (zR HO_4) hb); have HO471 := Aside0.mk (Kd.S_lower (Kd.S_new' ho0 (Kd.R_lt (zR HO466))) (below_size (zB HB))); replace HO466 := Aside0.mk (Kd.R_below (zR HO466) hb); replace HB := bS HB hb; (try clear hb); (try clear ho0)) | (go_at_call 23; (with_reducible refine (impl_MakeMessage.calls k4 _ _ t451 x7_4 t472 _ ?side1 ?side2 A47.out).mono ?_); (case side1 => repeat (first | exact (Kd.R_reads' HO_3.out).2.2 | (with_reducible refine Kd.C_alloc ?_ _) | (with_reducible refine Kd.C_drewN ?_ _) | (with_reducible refine Kd.C_drew ?_))); (case side2 => exact (Kd.R_reads' HO_3.out).2.1); rintro e w58 ⟨v473, rfl, ho0, hb⟩; replace HO_3 := Aside0.mk (Kd.R_below (zR HO_3) hb); replace HO_4 := Aside0.mk (Kd.R_below (zR HO_4) hb); have HO474 := Aside0.mk (Kd.S_lower (Kd.S_new' (Kd.S_new' ho0 (Kd.R_lt (zR HO466))) (Kd.S_lt (zS HO471))) (below_size (zB HB))); replace HO466 := Aside0.mk (Kd.R_below (zR HO466) hb); replace HO471 := Aside0.mk (Kd.S_elder' (zS HO471) (Kd.S_base ho0) hb); replace HB := bS HB hb; (try clear hb); (try clear ho0); obtain ⟨Ao59, co59, eo59⟩ := Kd.S_slice HO471.out; subst eo59; obtain ⟨Ao60, co60, eo60⟩ := Kd.S_slice HO474.out; subst eo60) | (go_at_call 22; (with_reducible refine (impl_EqualMessages.calls k4 _ _ t468 _ _ t472 false _ ?side1 ?side2 ?side3 ?side4 A48.out).mono ?_); (case side1 => repeat (first | exact (Kd.S_reads' HO471.out).2.2 | (with_reducible refine Kd.C_alloc ?_ _) | (with_reducible refine Kd.C_drewN ?_ _) | (with_reducible refine Kd.C_drew ?_))); (case side2 => exact (Kd.S_reads' HO471.out).2.1); (case side3 => repeat (first | exact (Kd.S_reads' HO474.out).2.2 | (with_reducible refine Kd.C_alloc ?_ _) | (with_reducible refine Kd.C_drewN ?_ _) | (with_reducible refine Kd.C_drew ?_))); (case side4 => exact (Kd.S_reads' HO474.out).2.1); rintro e w61 ⟨rfl, hb⟩; replace HO_3 := Aside0.mk (Kd.R_below (zR HO_3) hb); replace HO_4 := Aside0.mk (Kd.R_below (zR HO_4) hb); replace HO466 := Aside0.mk (Kd.R_below (zR HO466) hb); replace HO471 := Aside0.mk (Kd.S_below (zS HO471) hb); replace HO474 := Aside0.mk (Kd.S_below (zS HO474) hb); replace HB := bS HB hb; (try clear hb)))
                  go_ret
                  exact ⟨zE, zB HB⟩
                ·replace c46 := Bool.eq_false_iff.mpr c46
                 subst c46
                 have H1 : (some false) = some r := by rw [if_neg (show ¬ (false = true) by decide)] at H; exact H
                 clear H
                 have H := H1
                 clear H1
                 obtain rfl := Option.some.inj H
                 obtain ⟨Ao62, co62, eo62⟩ := Kd.R_slice HO466.out
                 subst eo62
                 go_wp2_with (first | ((with_reducible refine gate_callee (f := 21) rfl ?_); refine goesL_ (some 75) rfl rfl Try.func21 (by kernel_rfl) rfl #[.slice Ao9 t452.length co9, .slice Ao62 t464.length co62] rfl zG ?_; (with_reducible refine (impl_DecodeMessage.calls k4 _ _ t452 _ _ t464 t468 false _ ?side1 ?side2 ?side3 ?side4 A45.out).mono ?_); (case side1 => repeat (first | exact (Kd.R_reads' HO_4.out).2.2 | (with_reducible refine Kd.C_alloc ?_ _) | (with_reducible refine Kd.C_drewN ?_ _) | (with_reducible refine Kd.C_drew ?_))); (case side2 => exact (Kd.R_reads' HO_4.out).2.1); (case side3 => repeat (first | exact (Kd.R_reads' HO466.out).2.2 | (with_reducible refine Kd.C_alloc ?_ _) | (with_reducible refine Kd.C_drewN ?_ _) | (with_reducible refine Kd.C_drew ?_))); (case side4 => exact (Kd.R_reads' HO466.out).2.1); rintro e w63 ⟨v470, rfl, ho0, hb⟩; refine ⟨_, rfl, ?_⟩; replace HO_3 := Aside0.mk (Kd.R_below (zR HO_3) hb); replace HO_4 := Aside0.mk (Kd.R_below (zR HO_4) hb); have HO471 := Aside0.mk (Kd.S_lower (Kd.S_new' ho0 (Kd.R_lt (zR HO466))) (below_size (zB HB))); replace HO466 := Aside0.mk (Kd.R_below (zR HO466) hb); replace HB := bS HB hb; (try clear hb); (try clear ho0)))
                 go_ret
                 exact ⟨zE, zB HB⟩
               ·replace c44 := Bool.eq_false_iff.mpr c44
                subst c44
                have H1 : (laws_FnDiffers.j4 k4 t451 t452 t457 x7_4) = some r := by rw [if_neg (show ¬ (false = true) by decide)] at H; exact H
                clear H
                have H := H1
                clear H1
                have H' := Aside0.mk H
                clear H
                go_wp2
                go_meet
                case rel => exact ⟨_, H', ⟨by have := HJ5.out; have := HJ22.out; have := HJ29.out; have := HK4.out; first | omega | exact Nat.le_refl _⟩, ⟨zR HO_3⟩, ⟨zR HO_4⟩, ⟨zB HB⟩⟩
              case rest =>
               clear HC41
               try clear c1
               try clear c2
               try clear p2
               try clear c3
               try clear c4
               try clear c5
               try clear c12
               try clear c12b0
               try clear c12b1
               try clear c13
               try clear c14
               try clear c15
               try clear c16
               try clear c19
               try clear c20
               try clear c21
               try clear c25
               try clear c25b0
               try clear c25b1
               try clear c26
               try clear c26b0
               try clear c26b1
               try clear c27
               try clear c27b0
               try clear c27b1
               try clear c28
               try clear c28b0
               try clear c28b1
               try clear c29
               try clear c32
               try clear c37
               try clear c38
               try clear c38b0
               try clear c44
               try clear c46
               try clear c49
               try clear p2
               obtain ⟨kq, HA, HJ40, HO_3, HO_4, HB⟩ := hcut
               cases kq with
               | zero => exact absurd HA.out (by simp [laws_FnDiffers.j4])
               | succ kj40 =>
                have H := HA.out
                clear HA
                simp only [laws_FnDiffers.j4] at H
                by_cases c64 : t457 = 2
                ·rw [if_pos c64] at H
                 have c64b0 : (t457 == 2) = true := beq_iff_eq.mpr c64
                 have c64b1 : (t457 != 2) = false := bne_eq_false_iff_eq.mpr c64
                 clear c64
                 obtain ⟨c65, H⟩ := ifS H
                 have c65b0 := eq_true c65
                 have c65b1 : decide (0 ≤ (t451.length : Int)) = true := decide_eq_true c65
                 clear c65
                 obtain ⟨c66, H⟩ := ifS H
                 have c66b0 := eq_true c66
                 have c66b1 : decide ((t451.length : Int) ≤ (t452.length : Int)) = true := decide_eq_true c66
                 clear c66
                 obtain ⟨y476, hy476⟩ : ∃ y_ : List (S47), y_ = (t452.take ((t451.length : Int) : Int).toNat) := ⟨_, rfl⟩
                 replace H : ((impl_EqualFormats.f kj40 t451 y476).bind fun t480 => (if t480 = true then ((impl_SkipsTail.f kj40 t451 t452 x7_4).bind fun t481 => (if t481 = true then (laws_FnDiffers.l0 kj40 t451 t452 t457 (wrap64 (x7_4 + 1))) else (some false))) else (laws_FnDiffers.l0 kj40 t451 t452 t457 (wrap64 (x7_4 + 1))))) = some r := by first | (rw [hy476]; with_reducible exact H) | (have H2_ := (Option.bind_some _ _).symm.trans H; rw [hy476]; with_reducible exact H2_) | (have H2_ := (Option.bind_some _ _).symm.trans H; with_reducible exact H2_) | with_reducible exact H | (rw [hy476]; exact H) | exact H
                 have Ny476 := Aside0.mk hy476
                 clear hy476
                 obtain ⟨t480, A67, H⟩ := bindS H
                 by_cases c68 : t480 = true
                 ·subst c68
                  have H1 : ((impl_SkipsTail.f kj40 t451 t452 x7_4).bind fun t481 => (if t481 = true then (laws_FnDiffers.l0 kj40 t451 t452 t457 (wrap64 (x7_4 + 1))) else (some false))) = some r := by rw [if_pos rfl] at H; exact H
                  clear H
                  have H := H1
                  clear H1
                  obtain ⟨t481, A69, H⟩ := bindS H
                  by_cases c70 : t481 = true
                  ·subst c70
                   have H1 : (laws_FnDiffers.l0 kj40 t451 t452 t457 (wrap64 (x7_4 + 1))) = some r := by rw [if_pos rfl] at H; exact H
                   clear H
                   have H := H1
                   clear H1
                   have H' := Aside0.mk H
                   clear H
                   have q71 : ((t451.length : Int) : Int) ≤ ((t452.length : Int) : Int) := zD
                   obtain ⟨i071, hi071, _, hsz71, _⟩ := info_parts info47
                   have hroom71 : t452.length ≤ co9 := (Kd.R_reads' HO_4.out).2.1
                   have hC71 : Kd.C k47 _ Ao9 t452.length t452 := (Kd.R_reads' HO_4.out).2.2
                   have hcut71 := cut_to (P := Try.prog) 25 47 .i64 Try.underlying25 hi071 Ao9 t452.length co9 (t451.length : Int) (zD) q71 hroom71
                   have hr71 := Kd.C_take (m := ((t451.length : Int) : Int).toNat) hC71 (by omega)
                   have hy71 : y476.length = ((t451.length : Int) : Int).toNat := (by rw [Ny476.out, List.length_take]; omega)
                   rw [← Ny476.out] at hr71
                   rw [← hy71] at hcut71
                   have HR479 := Aside0.mk hr71
                   have HC479 := Aside0.mk (show y476.length ≤ co9 from by omega)
                   clear hr71 hC71 hroom71 hi071 hsz71
                   have KY71 := Aside0.mk hy71
                   clear hy71
                   have KL71 := Aside0.mk (show ((t451.length : Int) : Int).toNat ≤ t452.length from by omega)
                   replace q71 := eq_true q71
                   go_wp2_with (first | (go_at_call 18; (with_reducible refine (impl_EqualFormats.calls kj40 _ _ t451 _ _ y476 true _ ?side1 ?side2 ?side3 ?side4 A67.out).mono ?_); (case side1 => repeat (first | exact (Kd.R_reads' HO_3.out).2.2 | (with_reducible refine Kd.C_alloc ?_ _) | (with_reducible refine Kd.C_drewN ?_ _) | (with_reducible refine Kd.C_drew ?_))); (case side2 => exact (Kd.R_reads' HO_3.out).2.1); (case side3 => repeat (first | exact (by repeat (first | (with_reducible exact HR479.out) | (with_reducible refine Kd.C_alloc ?_ _) | (with_reducible refine Kd.C_drewN ?_ _) | (with_reducible refine Kd.C_drew ?_) | exact HR479.out)) | (with_reducible refine Kd.C_alloc ?_ _) | (with_reducible refine Kd.C_drewN ?_ _) | (with_reducible refine Kd.C_drew ?_))); (case side4 => exact HC479.out); rintro e w' ⟨rfl, ⟨nd, rfl⟩⟩) | (go_at_call 9; (with_reducible refine (impl_SkipsTail.calls kj40 _ _ t451 _ _ t452 x7_4 true _ ?side1 ?side2 ?side3 ?side4 A69.out).mono ?_); (case side1 => repeat (first | exact (Kd.R_reads' HO_3.out).2.2 | (with_reducible refine Kd.C_alloc ?_ _) | (with_reducible refine Kd.C_drewN ?_ _) | (with_reducible refine Kd.C_drew ?_))); (case side2 => exact (Kd.R_reads' HO_3.out).2.1); (case side3 => repeat (first | exact (Kd.R_reads' HO_4.out).2.2 | (with_reducible refine Kd.C_alloc ?_ _) | (with_reducible refine Kd.C_drewN ?_ _) | (with_reducible refine Kd.C_drew ?_))); (case side4 => exact (Kd.R_reads' HO_4.out).2.1); rintro e w72 ⟨rfl, hb⟩; replace HO_3 := Aside0.mk (Kd.R_below (zR HO_3) hb); replace HO_4 := Aside0.mk (Kd.R_below (zR HO_4) hb); replace HR479 := Aside0.mk (Kd.C_below (by repeat (first | (with_reducible exact HR479.out) | (with_reducible refine Kd.C_alloc ?_ _) | (with_reducible refine Kd.C_drewN ?_ _) | (with_reducible refine Kd.C_drew ?_) | exact HR479.out)) hb); replace HB := bS HB hb; (try clear hb)))
                   go_roundg kj40
                   case measure => have := HJ5.out; have := HJ22.out; have := HJ29.out; have := HK4.out; have := HJ40.out; omega
                   case rel => exact ⟨(wrap64 (x7_4 + 1)), zF, H', ⟨by have := HJ5.out; have := HJ22.out; have := HJ29.out; have := HK4.out; have := HJ40.out; omega⟩, ⟨zR HO_3⟩, ⟨zR HO_4⟩, ⟨zB HB⟩⟩
                  ·replace c70 := Bool.eq_false_iff.mpr c70
                   subst c70
                   have H1 : (some false) = some r := by rw [if_neg (show ¬ (false = true) by decide)] at H; exact H
                   clear H
                   have H := H1
                   clear H1
                   obtain rfl := Option.some.inj H
                   have q73 : ((t451.length : Int) : Int) ≤ ((t452.length : Int) : Int) := zD
                   obtain ⟨i073, hi073, _, hsz73, _⟩ := info_parts info47
                   have hroom73 : t452.length ≤ co9 := (Kd.R_reads' HO_4.out).2.1
                   have hC73 : Kd.C k47 _ Ao9 t452.length t452 := (Kd.R_reads' HO_4.out).2.2
                   have hcut73 := cut_to (P := Try.prog) 25 47 .i64 Try.underlying25 hi073 Ao9 t452.length co9 (t451.length : Int) (zD) q73 hroom73
                   have hr73 := Kd.C_take (m := ((t451.length : Int) : Int).toNat) hC73 (by omega)
                   have hy73 : y476.length = ((t451.length : Int) : Int).toNat := (by rw [Ny476.out, List.length_take]; omega)
                   rw [← Ny476.out] at hr73
                   rw [← hy73] at hcut73
                   have HR479 := Aside0.mk hr73
                   have HC479 := Aside0.mk (show y476.length ≤ co9 from by omega)
                   clear hr73 hC73 hroom73 hi073 hsz73
                   have KY73 := Aside0.mk hy73
                   clear hy73
                   have KL73 := Aside0.mk (show ((t451.length : Int) : Int).toNat ≤ t452.length from by omega)
                   replace q73 := eq_true q73
                   go_wp2_with (first | (go_at_call 18; (with_reducible refine (impl_EqualFormats.calls kj40 _ _ t451 _ _ y476 true _ ?side1 ?side2 ?side3 ?side4 A67.out).mono ?_); (case side1 => repeat (first | exact (Kd.R_reads' HO_3.out).2.2 | (with_reducible refine Kd.C_alloc ?_ _) | (with_reducible refine Kd.C_drewN ?_ _) | (with_reducible refine Kd.C_drew ?_))); (case side2 => exact (Kd.R_reads' HO_3.out).2.1); (case side3 => repeat (first | exact (by repeat (first | (with_reducible exact HR479.out) | (with_reducible refine Kd.C_alloc ?_ _) | (with_reducible refine Kd.C_drewN ?_ _) | (with_reducible refine Kd.C_drew ?_) | exact HR479.out)) | (with_reducible refine Kd.C_alloc ?_ _) | (with_reducible refine Kd.C_drewN ?_ _) | (with_reducible refine Kd.C_drew ?_))); (case side4 => exact HC479.out); rintro e w' ⟨rfl, ⟨nd, rfl⟩⟩) | (go_at_call 9; (with_reducible refine (impl_SkipsTail.calls kj40 _ _ t451 _ _ t452 x7_4 false _ ?side1 ?side2 ?side3 ?side4 A69.out).mono ?_); (case side1 => repeat (first | exact (Kd.R_reads' HO_3.out).2.2 | (with_reducible refine Kd.C_alloc ?_ _) | (with_reducible refine Kd.C_drewN ?_ _) | (with_reducible refine Kd.C_drew ?_))); (case side2 => exact (Kd.R_reads' HO_3.out).2.1); (case side3 => repeat (first | exact (Kd.R_reads' HO_4.out).2.2 | (with_reducible refine Kd.C_alloc ?_ _) | (with_reducible refine Kd.C_drewN ?_ _) | (with_reducible refine Kd.C_drew ?_))); (case side4 => exact (Kd.R_reads' HO_4.out).2.1); rintro e w74 ⟨rfl, hb⟩; replace HO_3 := Aside0.mk (Kd.R_below (zR HO_3) hb); replace HO_4 := Aside0.mk (Kd.R_below (zR HO_4) hb); replace HR479 := Aside0.mk (Kd.C_below (by repeat (first | (with_reducible exact HR479.out) | (with_reducible refine Kd.C_alloc ?_ _) | (with_reducible refine Kd.C_drewN ?_ _) | (with_reducible refine Kd.C_drew ?_) | exact HR479.out)) hb); replace HB := bS HB hb; (try clear hb)))
                   go_ret
                   exact ⟨zE, zB HB⟩
                 ·replace c68 := Bool.eq_false_iff.mpr c68
                  subst c68
                  have H1 : (laws_FnDiffers.l0 kj40 t451 t452 t457 (wrap64 (x7_4 + 1))) = some r := by rw [if_neg (show ¬ (false = true) by decide)] at H; exact H
                  clear H
                  have H := H1
                  clear H1
                  have H' := Aside0.mk H
                  clear H
                  have q75 : ((t451.length : Int) : Int) ≤ ((t452.length : Int) : Int) := zD
                  obtain ⟨i075, hi075, _, hsz75, _⟩ := info_parts info47
                  have hroom75 : t452.length ≤ co9 := (Kd.R_reads' HO_4.out).2.1
                  have hC75 : Kd.C k47 _ Ao9 t452.length t452 := (Kd.R_reads' HO_4.out).2.2
                  have hcut75 := cut_to (P := Try.prog) 25 47 .i64 Try.underlying25 hi075 Ao9 t452.length co9 (t451.length : Int) (zD) q75 hroom75
                  have hr75 := Kd.C_take (m := ((t451.length : Int) : Int).toNat) hC75 (by omega)
                  have hy75 : y476.length = ((t451.length : Int) : Int).toNat := (by rw [Ny476.out, List.length_take]; omega)
                  rw [← Ny476.out] at hr75
                  rw [← hy75] at hcut75
                  have HR479 := Aside0.mk hr75
                  have HC479 := Aside0.mk (show y476.length ≤ co9 from by omega)
                  clear hr75 hC75 hroom75 hi075 hsz75
                  have KY75 := Aside0.mk hy75
                  clear hy75
                  have KL75 := Aside0.mk (show ((t451.length : Int) : Int).toNat ≤ t452.length from by omega)
                  replace q75 := eq_true q75
                  go_wp2_with (first | (go_at_call 18; (with_reducible refine (impl_EqualFormats.calls kj40 _ _ t451 _ _ y476 false _ ?side1 ?side2 ?side3 ?side4 A67.out).mono ?_); (case side1 => repeat (first | exact (Kd.R_reads' HO_3.out).2.2 | (with_reducible refine Kd.C_alloc ?_ _) | (with_reducible refine Kd.C_drewN ?_ _) | (with_reducible refine Kd.C_drew ?_))); (case side2 => exact (Kd.R_reads' HO_3.out).2.1); (case side3 => repeat (first | exact (by repeat (first | (with_reducible exact HR479.out) | (with_reducible refine Kd.C_alloc ?_ _) | (with_reducible refine Kd.C_drewN ?_ _) | (with_reducible refine Kd.C_drew ?_) | exact HR479.out)) | (with_reducible refine Kd.C_alloc ?_ _) | (with_reducible refine Kd.C_drewN ?_ _) | (with_reducible refine Kd.C_drew ?_))); (case side4 => exact HC479.out); rintro e w' ⟨rfl, ⟨nd, rfl⟩⟩))
                  go_roundg kj40
                  case measure => have := HJ5.out; have := HJ22.out; have := HJ29.out; have := HK4.out; have := HJ40.out; omega
                  case rel => exact ⟨(wrap64 (x7_4 + 1)), zF, H', ⟨by have := HJ5.out; have := HJ22.out; have := HJ29.out; have := HK4.out; have := HJ40.out; omega⟩, ⟨zR HO_3⟩, ⟨zR HO_4⟩, ⟨zB HB⟩⟩
                ·rw [if_neg c64] at H
                 have c64b0 : (t457 == 2) = false := beq_eq_false_iff_ne.mpr c64
                 have c64b1 : (t457 != 2) = true := bne_iff_ne.mpr c64
                 have H' := Aside0.mk H
                 clear H
                 go_wp2
                 go_roundg kj40
                 case measure => have := HJ5.out; have := HJ22.out; have := HJ29.out; have := HK4.out; have := HJ40.out; omega
                 case rel => exact ⟨(wrap64 (x7_4 + 1)), zF, H', ⟨by have := HJ5.out; have := HJ22.out; have := HJ29.out; have := HK4.out; have := HJ40.out; omega⟩, ⟨zR HO_3⟩, ⟨zR HO_4⟩, ⟨zB HB⟩⟩
             ·rw [if_neg c38] at H
              have c38b0 : decide (x7_4 < 5) = false := decide_eq_false c38
              clear c38
              obtain rfl := Option.some.inj H
              go_wp2
              go_ret
              exact ⟨zE, zB HB⟩

/-- THE ONE PURE STATEMENT of laws_FnDiffers: yours. -/
def laws_FnDiffers.Pure : Prop := ∀ (l0 : List Int), l0.length ≤ maxLen → l0.length * 1 ≤ 140737488351232 → (∀ x ∈ l0, (Lit.int .u8 x).wf = true) → ∃ k, laws_FnDiffers.f k l0 = some true
theorem laws_FnDiffers.walk (P : laws_FnDiffers.Pure) (a0 : Option Addr) (len0 cap0 : Nat) (z0 : List Int) (w : World) (w0 : (a0 = none ∧ len0 = 0 ∧ cap0 = 0 ∧ z0 = []) ∨ ∃ x, a0 = some x ∧ len0 ≤ cap0 ∧ cap0 ≤ maxLen ∧ z0.length = cap0 ∧ (∀ i, i < z0.length → w.cell? (x.add i) = some (.int .u8 (z0.getD i 0))) ∧ ∀ n ∈ z0, (Lit.int .u8 n).wf = true) (y0 : len0 * 1 ≤ 140737488351232) :
  Calls Try.prog 5 #[.slice a0 len0 cap0] w fun e w' => e = .returned (.bool true) ∧ Below w.heap.size w w' := by
 obtain ⟨l0, rfl, hr0, hm0, hw0, hc0⟩ := ReadsInt.ofRowC w0
 obtain ⟨k, h⟩ := P l0 hm0 y0 hw0
 refine (laws_FnDiffers.calls k _ _ l0 true w (Kd.C_of_reads (d := (0 : Int)) (h1 := fun _ => rfl) hr0) hc0 h).mono ?_
 rintro e w' ⟨rfl, hd⟩
 exact ⟨rfl, hd⟩

end Go.Proofs.Yticpmgofegaaeaa.PFnDiffers
