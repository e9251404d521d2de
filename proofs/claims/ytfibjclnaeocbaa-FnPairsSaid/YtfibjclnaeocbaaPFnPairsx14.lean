-- WRITTEN by pp.py, this session's own wrapper around the print; not trusted: Lean checks it
import Derived.Test.YtfibjclnaeocbaaPFnPairsx0
import Derived.Test.YtfibjclnaeocbaaPFnPairsx1
import Derived.Test.YtfibjclnaeocbaaPFnPairsx6
import Derived.Test.YtfibjclnaeocbaaPFnPairsx7
import Derived.Test.YtfibjclnaeocbaaPFnPairsx8
import Derived.Test.YtfibjclnaeocbaaPFnPairsx9
import Derived.Test.YtfibjclnaeocbaaPFnPairsx10
import Derived.Test.YtfibjclnaeocbaaPFnPairsx12
import Derived.Test.YtfibjclnaeocbaaPFnPairsx13
namespace Go.Proofs.Ytfibjclnaeocbaa.PFnPairs
open Go.RowKit Go.Proofs.Ytfibjclnaeocbaa.Hw Go.Proofs.YtfibjclnaeocbaaW.PrintWords Go.Proofs.YtfibjclnaeocbaaW.PrintLast Go.Proofs.YtfibjclnaeocbaaW.PrintMore
attribute [local go_sem] max2_int min2_int max_two min_two max_three min_three max_four min_four   -- for this text's walks alone
set_option linter.unusedVariables false
set_option linter.unusedSimpArgs false
set_option linter.unusedSectionVars false

/-! ### laws_FnPairs: function 3 -/
mutual
def laws_FnPairs.j0 : Nat → Bool → Bool → Int → List Bool → List (S46) → Int → List Bool → List (S46) → Option (Bool)
 | 0, _, _, _, _, _, _, _, _ => none
 | k + 1, x5, x53, x578000, x578001, x578002, x579000, x579001, x579002 => if x53 = true then (some false) else ((impl_DualOf.f k x578000 x578001 x578002).bind fun bt600 => ((impl_PairsOf.f k x578000 x578001 x578002 bt600.1 bt600.2.1 bt600.2.2).bind fun t608 => (laws_FnPairs.l0 k x5 t608 0 x578000 x578001 x578002 x579000 x579001 x579002 bt600.1 bt600.2.1 bt600.2.2)))
def laws_FnPairs.l0 : Nat → Bool → List (List Int) → Int → Int → List Bool → List (S46) → Int → List Bool → List (S46) → Int → List Bool → List (S46) → Option (Bool)
 | 0, _, _, _, _, _, _, _, _, _, _, _, _ => none
 | k + 1, x5, x7, x8, x578000, x578001, x578002, x579000, x579001, x579002, x608000, x608001, x608002 => if x8 < (x7.length : Int) then (if 0 ≤ x8 then (if 0 < ((rd_L4 x7 x8).length : Int) then (if 1 < ((rd_L4 x7 x8).length : Int) then (if (rd (rd_L4 x7 x8) 0) = (rd (rd_L4 x7 x8) 1) then ((impl_TroubleAt.f k x578000 x578001 x578002 x608000 x608001 x608002 (rd (rd_L4 x7 x8) 0) (rd (rd_L4 x7 x8) 1)).bind fun t624 => (laws_FnPairs.j2 k x5 x7 x8 (t624 == 1) x578000 x578001 x578002 x579000 x579001 x579002 x608000 x608001 x608002)) else (laws_FnPairs.j2 k x5 x7 x8 true x578000 x578001 x578002 x579000 x579001 x579002 x608000 x608001 x608002)) else (none)) else (none)) else (none)) else (if x5 = true then (some true) else ((impl_IsMachine.f k x578000 x578001 x578002).bind fun t611 => (if t611 = true then ((impl_IsMachine.f k x579000 x579001 x579002).bind fun t612 => (if t612 = true then ((impl_FirstTrouble.f k x578000 x578001 x578002 x579000 x579001 x579002).bind fun t613 => (some ((t613.length : Int) == 2))) else (some true))) else (some true))))
def laws_FnPairs.j2 : Nat → Bool → List (List Int) → Int → Bool → Int → List Bool → List (S46) → Int → List Bool → List (S46) → Int → List Bool → List (S46) → Option (Bool)
 | 0, _, _, _, _, _, _, _, _, _, _, _, _, _ => none
 | k + 1, x5, x7, x8, x95, x578000, x578001, x578002, x579000, x579001, x579002, x608000, x608001, x608002 => if x95 = true then (some false) else (if 0 ≤ x8 then (if x8 < (x7.length : Int) then (if 0 < ((rd_L4 x7 x8).length : Int) then (if 1 < ((rd_L4 x7 x8).length : Int) then ((impl_NextPairs.f k x578000 x578001 x578002 x608000 x608001 x608002 (rd (rd_L4 x7 x8) 0) (rd (rd_L4 x7 x8) 1)).bind fun t629 => (laws_FnPairs.l1 k x5 x7 x8 t629 0 x578000 x578001 x578002 x579000 x579001 x579002 x608000 x608001 x608002)) else (none)) else (none)) else (none)) else (none))
def laws_FnPairs.l1 : Nat → Bool → List (List Int) → Int → List (List Int) → Int → Int → List Bool → List (S46) → Int → List Bool → List (S46) → Int → List Bool → List (S46) → Option (Bool)
 | 0, _, _, _, _, _, _, _, _, _, _, _, _, _, _ => none
 | k + 1, x5, x7, x8, x9, x10, x578000, x578001, x578002, x579000, x579001, x579002, x608000, x608001, x608002 => if x10 < (x9.length : Int) then (if 0 ≤ x10 then (if 0 < ((rd_L4 x9 x10).length : Int) then (if (rd (rd_L4 x9 x10) 0) < 0 then (some false) else (if (rd (rd_L4 x9 x10) 0) ≥ x578000 then (some false) else (laws_FnPairs.l1 k x5 x7 x8 x9 (wrap64 (x10 + 1)) x578000 x578001 x578002 x579000 x579001 x579002 x608000 x608001 x608002))) else (none)) else (none)) else (laws_FnPairs.l0 k x5 x7 (wrap64 (x8 + 1)) x578000 x578001 x578002 x579000 x579001 x579002 x608000 x608001 x608002)
end
def laws_FnPairs.f (k : Nat) (l0 : List Int) : Option (Bool) := (laws_big.f l0).bind fun t562 => (if t562 = true then (some true) else ((spec_DrawIsSafe.f k l0).bind fun bt563 => ((impl_IsSafe.f k bt563.1 bt563.2.1 bt563.2.2.1 bt563.2.2.2.1 bt563.2.2.2.2.1 bt563.2.2.2.2.2).bind fun t579 => ((impl_IsSafe.f k bt563.2.2.2.1 bt563.2.2.2.2.1 bt563.2.2.2.2.2 bt563.1 bt563.2.1 bt563.2.2.1).bind fun t580 => (if (t579 != t580) = true then (laws_FnPairs.j0 k t579 true bt563.1 bt563.2.1 bt563.2.2.1 bt563.2.2.2.1 bt563.2.2.2.2.1 bt563.2.2.2.2.2) else (if t579 = true then ((impl_FirstTrouble.f k bt563.1 bt563.2.1 bt563.2.2.1 bt563.2.2.2.1 bt563.2.2.2.2.1 bt563.2.2.2.2.2).bind fun t581 => (if (t581.length : Int) > 0 then (laws_FnPairs.j0 k t579 true bt563.1 bt563.2.1 bt563.2.2.1 bt563.2.2.2.1 bt563.2.2.2.2.1 bt563.2.2.2.2.2) else ((impl_PairsOf.f k bt563.1 bt563.2.1 bt563.2.2.1 bt563.2.2.2.1 bt563.2.2.2.2.1 bt563.2.2.2.2.2).bind fun t584 => ((impl_PairsOf.f k bt563.2.2.2.1 bt563.2.2.2.2.1 bt563.2.2.2.2.2 bt563.1 bt563.2.1 bt563.2.2.1).bind fun t587 => (if (t584.length : Int) = (t587.length : Int) then ((impl_IsMachine.f k bt563.1 bt563.2.1 bt563.2.2.1).bind fun t590 => ((spec_IsMachine.f k bt563.1 bt563.2.1 bt563.2.2.1).bind fun t591 => (laws_FnPairs.j0 k t579 (t590 != t591) bt563.1 bt563.2.1 bt563.2.2.1 bt563.2.2.2.1 bt563.2.2.2.2.1 bt563.2.2.2.2.2))) else (laws_FnPairs.j0 k t579 true bt563.1 bt563.2.1 bt563.2.2.1 bt563.2.2.2.1 bt563.2.2.2.2.1 bt563.2.2.2.2.2)))))) else ((impl_PairsOf.f k bt563.1 bt563.2.1 bt563.2.2.1 bt563.2.2.2.1 bt563.2.2.2.2.1 bt563.2.2.2.2.2).bind fun t592 => ((impl_PairsOf.f k bt563.2.2.2.1 bt563.2.2.2.2.1 bt563.2.2.2.2.2 bt563.1 bt563.2.1 bt563.2.2.1).bind fun t595 => (if (t592.length : Int) = (t595.length : Int) then ((impl_IsMachine.f k bt563.1 bt563.2.1 bt563.2.2.1).bind fun t598 => ((spec_IsMachine.f k bt563.1 bt563.2.1 bt563.2.2.1).bind fun t599 => (laws_FnPairs.j0 k t579 (t598 != t599) bt563.1 bt563.2.1 bt563.2.2.1 bt563.2.2.2.1 bt563.2.2.2.2.1 bt563.2.2.2.2.2))) else (laws_FnPairs.j0 k t579 true bt563.1 bt563.2.1 bt563.2.2.1 bt563.2.2.2.1 bt563.2.2.2.2.1 bt563.2.2.2.2.2))))))))))
theorem laws_FnPairs.mono_l : ∀ k, (∀ y0 y1 y2 y3 y4 y5 y6 y7, LeO (laws_FnPairs.j0 k y0 y1 y2 y3 y4 y5 y6 y7) (laws_FnPairs.j0 (k + 1) y0 y1 y2 y3 y4 y5 y6 y7)) ∧ (∀ y0 y1 y2 y3 y4 y5 y6 y7 y8 y9 y10 y11, LeO (laws_FnPairs.l0 k y0 y1 y2 y3 y4 y5 y6 y7 y8 y9 y10 y11) (laws_FnPairs.l0 (k + 1) y0 y1 y2 y3 y4 y5 y6 y7 y8 y9 y10 y11)) ∧ (∀ y0 y1 y2 y3 y4 y5 y6 y7 y8 y9 y10 y11 y12, LeO (laws_FnPairs.j2 k y0 y1 y2 y3 y4 y5 y6 y7 y8 y9 y10 y11 y12) (laws_FnPairs.j2 (k + 1) y0 y1 y2 y3 y4 y5 y6 y7 y8 y9 y10 y11 y12)) ∧ (∀ y0 y1 y2 y3 y4 y5 y6 y7 y8 y9 y10 y11 y12 y13, LeO (laws_FnPairs.l1 k y0 y1 y2 y3 y4 y5 y6 y7 y8 y9 y10 y11 y12 y13) (laws_FnPairs.l1 (k + 1) y0 y1 y2 y3 y4 y5 y6 y7 y8 y9 y10 y11 y12 y13))
 | 0 => ⟨fun _ _ _ _ _ _ _ _ r h => by simp [laws_FnPairs.j0] at h, fun _ _ _ _ _ _ _ _ _ _ _ _ r h => by simp [laws_FnPairs.l0] at h, fun _ _ _ _ _ _ _ _ _ _ _ _ _ r h => by simp [laws_FnPairs.j2] at h, fun _ _ _ _ _ _ _ _ _ _ _ _ _ _ r h => by simp [laws_FnPairs.l1] at h⟩
 | k + 1 => by
  obtain ⟨ih0, ih1, ih2, ih3⟩ := laws_FnPairs.mono_l k
  refine ⟨?a0, ?a1, ?a2, ?a3⟩
  case' a0 => intros; unfold laws_FnPairs.j0
  case' a1 => intros; unfold laws_FnPairs.l0
  case' a2 => intros; unfold laws_FnPairs.j2
  case' a3 => intros; unfold laws_FnPairs.l1
  all_goals repeat' first
  | (with_reducible first | exact ih0 _ _ _ _ _ _ _ _ | exact ih1 _ _ _ _ _ _ _ _ _ _ _ _ | exact ih2 _ _ _ _ _ _ _ _ _ _ _ _ _ | exact ih3 _ _ _ _ _ _ _ _ _ _ _ _ _ _ | exact impl_DualOf.mono _ _ _ _ | exact impl_FirstTrouble.mono _ _ _ _ _ _ _ | exact impl_IsMachine.mono _ _ _ _ | exact impl_IsSafe.mono _ _ _ _ _ _ _ | exact impl_NextPairs.mono _ _ _ _ _ _ _ _ _ | exact impl_PairsOf.mono _ _ _ _ _ _ _ | exact impl_TroubleAt.mono _ _ _ _ _ _ _ _ _ | exact spec_DrawIsSafe.mono _ _ | exact spec_IsMachine.mono _ _ _ _ | exact LeO.refl _ | exact LeO.none _ | refine LeO.ite ?_ ?_ | refine LeO.bind ?_ (fun _ => ?_))
  | exact ih0 _ _ _ _ _ _ _ _
  | exact ih1 _ _ _ _ _ _ _ _ _ _ _ _
  | exact ih2 _ _ _ _ _ _ _ _ _ _ _ _ _
  | exact ih3 _ _ _ _ _ _ _ _ _ _ _ _ _ _
  | exact impl_DualOf.mono _ _ _ _
  | exact impl_FirstTrouble.mono _ _ _ _ _ _ _
  | exact impl_IsMachine.mono _ _ _ _
  | exact impl_IsSafe.mono _ _ _ _ _ _ _
  | exact impl_NextPairs.mono _ _ _ _ _ _ _ _ _
  | exact impl_PairsOf.mono _ _ _ _ _ _ _
  | exact impl_TroubleAt.mono _ _ _ _ _ _ _ _ _
  | exact spec_DrawIsSafe.mono _ _
  | exact spec_IsMachine.mono _ _ _ _
  | exact LeO.none _
  | refine LeO.ite ?_ ?_
  | refine LeO.bind ?_ (fun _ => ?_)
theorem laws_FnPairs.mono : ∀ a0 k, LeO (laws_FnPairs.f k a0) (laws_FnPairs.f (k + 1) a0) := by
 intro a0 k
 obtain ⟨ih0, ih1, ih2, ih3⟩ := laws_FnPairs.mono_l k
 unfold laws_FnPairs.f
 repeat' first
   | (with_reducible first | exact ih0 _ _ _ _ _ _ _ _ | exact ih1 _ _ _ _ _ _ _ _ _ _ _ _ | exact ih2 _ _ _ _ _ _ _ _ _ _ _ _ _ | exact ih3 _ _ _ _ _ _ _ _ _ _ _ _ _ _ | exact impl_DualOf.mono _ _ _ _ | exact impl_FirstTrouble.mono _ _ _ _ _ _ _ | exact impl_IsMachine.mono _ _ _ _ | exact impl_IsSafe.mono _ _ _ _ _ _ _ | exact impl_NextPairs.mono _ _ _ _ _ _ _ _ _ | exact impl_PairsOf.mono _ _ _ _ _ _ _ | exact impl_TroubleAt.mono _ _ _ _ _ _ _ _ _ | exact spec_DrawIsSafe.mono _ _ | exact spec_IsMachine.mono _ _ _ _ | exact LeO.refl _ | exact LeO.none _ | refine LeO.ite ?_ ?_ | refine LeO.bind ?_ (fun _ => ?_))
   | exact ih0 _ _ _ _ _ _ _ _
   | exact ih1 _ _ _ _ _ _ _ _ _ _ _ _
   | exact ih2 _ _ _ _ _ _ _ _ _ _ _ _ _
   | exact ih3 _ _ _ _ _ _ _ _ _ _ _ _ _ _
   | exact impl_DualOf.mono _ _ _ _
   | exact impl_FirstTrouble.mono _ _ _ _ _ _ _
   | exact impl_IsMachine.mono _ _ _ _
   | exact impl_IsSafe.mono _ _ _ _ _ _ _
   | exact impl_NextPairs.mono _ _ _ _ _ _ _ _ _
   | exact impl_PairsOf.mono _ _ _ _ _ _ _
   | exact impl_TroubleAt.mono _ _ _ _ _ _ _ _ _
   | exact spec_DrawIsSafe.mono _ _
   | exact spec_IsMachine.mono _ _ _ _
   | exact LeO.none _
   | refine LeO.ite ?_ ?_
   | refine LeO.bind ?_ (fun _ => ?_)
def laws_FnPairs.T5 : Bool × List (List Nat × List Nat) := (true, [([], []), ([], []), ([], []), ([1, 2], [1, 2]), ([0, 3], [0, 3]), ([4, 3], [4]), ([5], [5]), ([6, 5, 5], [5, 6]), ([7], [7]), ([7], [7]), ([8, 9, 7, 7], [7, 8, 9]), ([10, 7], [7, 10]), ([11, 7], [7, 11]), ([7, 12, 5], [5, 7, 12]), ([5, 13], [5, 13]), ([14, 10], [14]), ([15], [15]), ([15], [15]), ([16, 17, 15, 15], [15, 16, 17]), ([18, 15], [15, 18]), ([15], [15]), ([15], [15]), ([20, 21, 18, 15], [15, 20, 21]), ([22, 15], [15, 22]), ([19, 23, 15], [15, 19, 23]), ([15, 24], [15, 24]), ([25, 22], [25]), ([26], [26]), ([27, 26, 26], [26, 27]), ([26], [26]), ([29, 28, 26], [26, 29]), ([28, 30, 26], [26, 28, 30]), ([26, 31], [26, 31])])
def laws_FnPairs.B5 : List Nat := [0, 0, 0, 6, 15, 31, 63, 127, 255, 255, 1023, 2047, 4095, 8191, 16383, 32767, 65535, 65535, 262143, 524287, 65535, 65535, 3670015, 7864319, 16777215, 33554431, 67108863, 134217727, 268435455, 134217727, 1073741823, 2147483647, 4294967295]
theorem laws_FnPairs.tab5 : rtab .any (opsOf Try.f3 5) = laws_FnPairs.T5 := by kernel_rfl
theorem laws_FnPairs.bits5 : waitsOk laws_FnPairs.T5.2 laws_FnPairs.B5 = true := by kernel_rfl
def laws_FnPairs.T12 : Bool × List (List Nat × List Nat) := (true, [([], []), ([], []), ([0, 1], [0, 1]), ([2], [2]), ([3], [3]), ([4], [4]), ([], []), ([], []), ([6, 7], [6, 7]), ([8], [8]), ([9], [9]), ([10], [10]), ([5, 11], [5, 11]), ([12], [12]), ([13], [13]), ([13], [13]), ([13], [13]), ([13], [13]), ([16, 17, 13], [13, 16, 17]), ([18, 13], [13, 18]), ([19, 13], [13, 19]), ([20, 13], [13, 20]), ([13], [13]), ([13], [13]), ([22, 23, 13], [13, 22, 23]), ([24, 13], [13, 24]), ([25, 13], [13, 25]), ([26, 13], [13, 26]), ([14, 15, 21, 27, 13, 13], [13, 14, 15, 21, 27]), ([28, 13], [13, 28]), ([13, 29], [13, 29])])
def laws_FnPairs.B12 : List Nat := [0, 0, 3, 7, 15, 31, 0, 0, 192, 448, 960, 1984, 4095, 8191, 16383, 16383, 16383, 16383, 212991, 475135, 999423, 2047999, 16383, 16383, 12599295, 29376511, 62930943, 130039807, 268435455, 536870911, 1073741823]
theorem laws_FnPairs.tab12 : rtab .any (opsOf Try.f3 12) = laws_FnPairs.T12 := by kernel_rfl
theorem laws_FnPairs.bits12 : waitsOk laws_FnPairs.T12.2 laws_FnPairs.B12 = true := by kernel_rfl
def laws_FnPairs.T14 : Bool × List (List Nat × List Nat) := (true, [([], []), ([], []), ([], []), ([], []), ([2, 3], [2, 3]), ([4], [4]), ([5], [5]), ([6], [6]), ([], []), ([], []), ([8, 9], [8, 9]), ([10], [10]), ([11], [11]), ([12], [12]), ([0, 1, 7, 13], [0, 1, 7, 13]), ([14, 14, 0, 1, 2, 3, 4, 5, 6, 7, 8, 9, 10, 11, 12, 13, 14], [14])])
def laws_FnPairs.B14 : List Nat := [0, 0, 0, 0, 12, 28, 60, 124, 0, 0, 768, 1792, 3840, 7936, 16383, 32767]
theorem laws_FnPairs.tab14 : rtab .any (opsOf Try.f3 14) = laws_FnPairs.T14 := by kernel_rfl
theorem laws_FnPairs.bits14 : waitsOk laws_FnPairs.T14.2 laws_FnPairs.B14 = true := by kernel_rfl
def laws_FnPairs.T18 : Bool × List (List Nat × List Nat) := (true, [([], []), ([], []), ([0, 1], [0, 1]), ([2], [2]), ([3], [3]), ([4], [4]), ([5], [5]), ([6], [6]), ([7], [7]), ([7], [7]), ([8, 9, 7], [7, 8, 9]), ([10, 7], [7, 10]), ([11, 7], [7, 11]), ([12, 7], [7, 12]), ([7], [7]), ([14, 7], [7, 14]), ([13, 15, 7], [7, 13, 15]), ([7, 16], [7, 16])])
def laws_FnPairs.B18 : List Nat := [0, 0, 3, 7, 15, 31, 63, 127, 255, 255, 1023, 2047, 4095, 8191, 255, 16639, 65535, 131071]
theorem laws_FnPairs.tab18 : rtab .any (opsOf Try.f3 18) = laws_FnPairs.T18 := by kernel_rfl
theorem laws_FnPairs.bits18 : waitsOk laws_FnPairs.T18.2 laws_FnPairs.B18 = true := by kernel_rfl
set_option maxHeartbeats 40000000 in
set_option maxRecDepth 100000 in
theorem laws_FnPairs.calls (k : Nat) (A0 : Option Addr) (c0 : Nat) (l0 : List Int) (r : Bool) (w : World) (hr0 : Kd.C (Kd.int .u8) w A0 l0.length l0) (hc0 : l0.length ≤ c0) (ht_ : r = true) (h : laws_FnPairs.f k l0 = some r) :
  Calls Try.prog 3 #[.slice A0 l0.length c0] w fun e w' => e = .returned (.bool r) ∧ Below w.heap.size w w' := by
 have hu27 := Try.underlying27
 have HR0 := aM hr0
 have HC0 := aM hc0
 clear hr0 hc0
 have HB := aM (Below.refl w.heap.size w)
 have H : ((laws_big.f l0).bind fun t562 => (if t562 = true then (some true) else ((spec_DrawIsSafe.f k l0).bind fun bt563 => ((impl_IsSafe.f k bt563.1 bt563.2.1 bt563.2.2.1 bt563.2.2.2.1 bt563.2.2.2.2.1 bt563.2.2.2.2.2).bind fun t579 => ((impl_IsSafe.f k bt563.2.2.2.1 bt563.2.2.2.2.1 bt563.2.2.2.2.2 bt563.1 bt563.2.1 bt563.2.2.1).bind fun t580 => (if (t579 != t580) = true then (laws_FnPairs.j0 k t579 true bt563.1 bt563.2.1 bt563.2.2.1 bt563.2.2.2.1 bt563.2.2.2.2.1 bt563.2.2.2.2.2) else (if t579 = true then ((impl_FirstTrouble.f k bt563.1 bt563.2.1 bt563.2.2.1 bt563.2.2.2.1 bt563.2.2.2.2.1 bt563.2.2.2.2.2).bind fun t581 => (if (t581.length : Int) > 0 then (laws_FnPairs.j0 k t579 true bt563.1 bt563.2.1 bt563.2.2.1 bt563.2.2.2.1 bt563.2.2.2.2.1 bt563.2.2.2.2.2) else ((impl_PairsOf.f k bt563.1 bt563.2.1 bt563.2.2.1 bt563.2.2.2.1 bt563.2.2.2.2.1 bt563.2.2.2.2.2).bind fun t584 => ((impl_PairsOf.f k bt563.2.2.2.1 bt563.2.2.2.2.1 bt563.2.2.2.2.2 bt563.1 bt563.2.1 bt563.2.2.1).bind fun t587 => (if (t584.length : Int) = (t587.length : Int) then ((impl_IsMachine.f k bt563.1 bt563.2.1 bt563.2.2.1).bind fun t590 => ((spec_IsMachine.f k bt563.1 bt563.2.1 bt563.2.2.1).bind fun t591 => (laws_FnPairs.j0 k t579 (t590 != t591) bt563.1 bt563.2.1 bt563.2.2.1 bt563.2.2.2.1 bt563.2.2.2.2.1 bt563.2.2.2.2.2))) else (laws_FnPairs.j0 k t579 true bt563.1 bt563.2.1 bt563.2.2.1 bt563.2.2.2.1 bt563.2.2.2.2.1 bt563.2.2.2.2.2)))))) else ((impl_PairsOf.f k bt563.1 bt563.2.1 bt563.2.2.1 bt563.2.2.2.1 bt563.2.2.2.2.1 bt563.2.2.2.2.2).bind fun t592 => ((impl_PairsOf.f k bt563.2.2.2.1 bt563.2.2.2.2.1 bt563.2.2.2.2.2 bt563.1 bt563.2.1 bt563.2.2.1).bind fun t595 => (if (t592.length : Int) = (t595.length : Int) then ((impl_IsMachine.f k bt563.1 bt563.2.1 bt563.2.2.1).bind fun t598 => ((spec_IsMachine.f k bt563.1 bt563.2.1 bt563.2.2.1).bind fun t599 => (laws_FnPairs.j0 k t579 (t598 != t599) bt563.1 bt563.2.1 bt563.2.2.1 bt563.2.2.2.1 bt563.2.2.2.2.1 bt563.2.2.2.2.2))) else (laws_FnPairs.j0 k t579 true bt563.1 bt563.2.1 bt563.2.2.1 bt563.2.2.2.1 bt563.2.2.2.2.1 bt563.2.2.2.2.2))))))))))) = some r := h
 clear h
 obtain ⟨t562, A2, H⟩ := bindS H
 by_cases c3 : t562 = true
 ·subst c3
  have H1 : (some true) = some r := by rw [if_pos rfl] at H; exact H
  clear H
  have H := H1
  clear H1
  obtain rfl := oI H
  go_enter Try.func3, Try.ntmps3
  go_wp2_with (first | ((with_reducible refine gC (f := 5) rfl ?_); refine goesL_ (some 12) rfl rfl Try.func5 (by kernel_rfl) rfl #[.slice A0 l0.length c0] rfl zG ?_; (with_reducible refine (laws_big.calls _ _ l0 true _ ?s1 ?s2 A2.o).mono ?_); (case s1 => exact cT HR0); (case s2 => exact HC0.o); rintro e w' ⟨rfl, ⟨nd, rfl⟩⟩; refine ⟨_, rfl, ?_⟩))
  go_ret
  exact ⟨zE, zB HB⟩
 ·replace c3 := Bool.eq_false_iff.mpr c3
  subst c3
  have H1 : ((spec_DrawIsSafe.f k l0).bind fun bt563 => ((impl_IsSafe.f k bt563.1 bt563.2.1 bt563.2.2.1 bt563.2.2.2.1 bt563.2.2.2.2.1 bt563.2.2.2.2.2).bind fun t579 => ((impl_IsSafe.f k bt563.2.2.2.1 bt563.2.2.2.2.1 bt563.2.2.2.2.2 bt563.1 bt563.2.1 bt563.2.2.1).bind fun t580 => (if (t579 != t580) = true then (laws_FnPairs.j0 k t579 true bt563.1 bt563.2.1 bt563.2.2.1 bt563.2.2.2.1 bt563.2.2.2.2.1 bt563.2.2.2.2.2) else (if t579 = true then ((impl_FirstTrouble.f k bt563.1 bt563.2.1 bt563.2.2.1 bt563.2.2.2.1 bt563.2.2.2.2.1 bt563.2.2.2.2.2).bind fun t581 => (if (t581.length : Int) > 0 then (laws_FnPairs.j0 k t579 true bt563.1 bt563.2.1 bt563.2.2.1 bt563.2.2.2.1 bt563.2.2.2.2.1 bt563.2.2.2.2.2) else ((impl_PairsOf.f k bt563.1 bt563.2.1 bt563.2.2.1 bt563.2.2.2.1 bt563.2.2.2.2.1 bt563.2.2.2.2.2).bind fun t584 => ((impl_PairsOf.f k bt563.2.2.2.1 bt563.2.2.2.2.1 bt563.2.2.2.2.2 bt563.1 bt563.2.1 bt563.2.2.1).bind fun t587 => (if (t584.length : Int) = (t587.length : Int) then ((impl_IsMachine.f k bt563.1 bt563.2.1 bt563.2.2.1).bind fun t590 => ((spec_IsMachine.f k bt563.1 bt563.2.1 bt563.2.2.1).bind fun t591 => (laws_FnPairs.j0 k t579 (t590 != t591) bt563.1 bt563.2.1 bt563.2.2.1 bt563.2.2.2.1 bt563.2.2.2.2.1 bt563.2.2.2.2.2))) else (laws_FnPairs.j0 k t579 true bt563.1 bt563.2.1 bt563.2.2.1 bt563.2.2.2.1 bt563.2.2.2.2.1 bt563.2.2.2.2.2)))))) else ((impl_PairsOf.f k bt563.1 bt563.2.1 bt563.2.2.1 bt563.2.2.2.1 bt563.2.2.2.2.1 bt563.2.2.2.2.2).bind fun t592 => ((impl_PairsOf.f k bt563.2.2.2.1 bt563.2.2.2.2.1 bt563.2.2.2.2.2 bt563.1 bt563.2.1 bt563.2.2.1).bind fun t595 => (if (t592.length : Int) = (t595.length : Int) then ((impl_IsMachine.f k bt563.1 bt563.2.1 bt563.2.2.1).bind fun t598 => ((spec_IsMachine.f k bt563.1 bt563.2.1 bt563.2.2.1).bind fun t599 => (laws_FnPairs.j0 k t579 (t598 != t599) bt563.1 bt563.2.1 bt563.2.2.1 bt563.2.2.2.1 bt563.2.2.2.2.1 bt563.2.2.2.2.2))) else (laws_FnPairs.j0 k t579 true bt563.1 bt563.2.1 bt563.2.2.1 bt563.2.2.2.1 bt563.2.2.2.2.1 bt563.2.2.2.2.2))))))))) = some r := by rw [if_neg (show ¬ (false = true) by decide)] at H; exact H
  clear H
  have H := H1
  clear H1
  replace H := oB.mp H
  obtain ⟨⟨t563, t564, t567, t570, t571, t574⟩, A40, H⟩ := H
  dsimp only at H
  have A4 := aM A40
  clear A40
  obtain ⟨t579, A5, H⟩ := bindS H
  have HC6 := aM H
  clear H
  go_enter Try.func3, Try.ntmps3
  go_upto_region 5 with (first | ((with_reducible refine gC (f := 5) rfl ?_); refine goesL_ (some 12) rfl rfl Try.func5 (by kernel_rfl) rfl #[.slice A0 l0.length c0] rfl zG ?_; (with_reducible refine (laws_big.calls _ _ l0 false _ ?s1 ?s2 A2.o).mono ?_); (case s1 => exact cT HR0); (case s2 => exact HC0.o); rintro e w' ⟨rfl, ⟨nd, rfl⟩⟩; refine ⟨_, rfl, ?_⟩) | ((with_reducible refine gC (f := 6) rfl ?_); refine goesL_ (some 15) rfl rfl Try.func6 (by kernel_rfl) rfl #[.slice A0 l0.length c0] rfl zG ?_; (with_reducible refine (spec_DrawIsSafe.calls k _ _ l0 t563 t564 t567 t570 t571 t574 _ ?s1 ?s2 A4.o).mono ?_); (case s1 => exact cT HR0); (case s2 => exact HC0.o); rintro e w7 ⟨v565, v568, v572, v575, rfl, ho0, ho1, ho2, ho3, hb⟩; refine ⟨_, rfl, ?_⟩; have HO566 := aM (rO ho0 (bZ (zB HB))); have HO569 := aM (rO ho1 (bZ (zB HB))); have HO573 := aM (rO ho2 (bZ (zB HB))); have HO576 := aM (rO ho3 (bZ (zB HB))); replace HB := bS HB hb; (try clear hb); (try clear ho0); (try clear ho1); (try clear ho2); (try clear ho3)) | ((with_reducible refine gD (N := 3) rfl ?_); (try (refine gate_guard (by rfl) ?_; dsimp only)); refine box_event ?hg (N := 3) ?hd (cs := #[.int .i64 0, .slice none 0 0, .slice none 0 0]) (t := 27) ?hr ?_; (case hd => rfl); (case hg => rfl); (case hr => first | (go_simp; done) | (go_simp; rfl)); intro gb577 hg w8 hbox hb; replace HO566 := aM (rW (zR HO566) hb); replace HO569 := aM (rW (zR HO569) hb); replace HO573 := aM (rW (zR HO573) hb); replace HO576 := aM (rW (zR HO576) hb); have BK577 := aM (hbox); have GW577 := gS HB hg; have GE577 := gS HB hg; replace HB := bS HB hb; clear hb hbox hg) | ((with_reducible refine gD (N := 4) rfl ?_); (try (refine gate_guard (by rfl) ?_; dsimp only)); refine box_event ?hg (N := 4) ?hd (cs := #[.int .i64 0, .slice none 0 0, .slice none 0 0]) (t := 27) ?hr ?_; (case hd => rfl); (case hg => rfl); (case hr => first | (go_simp; done) | (go_simp; rfl)); intro gb578 hg w9 hbox hb; replace HO566 := aM (rW (zR HO566) hb); replace HO569 := aM (rW (zR HO569) hb); replace HO573 := aM (rW (zR HO573) hb); replace HO576 := aM (rW (zR HO576) hb); have BK578 := aM (hbox); have GW578 := gS HB hg; have GE578 := gS HB hg; replace HB := bS HB hb; have NB577_578 := nL BK577 hg; have NB578_577 := nR BK577 hg; replace BK577 := kB BK577 hb; clear hb hbox hg; have hnb10 := NB577_578.o; have hnc10 := NB578_577.o; obtain ⟨z11_0, z11_1, z11_2, f11_0, f11_1, f11_2⟩ := bq3 BK577; obtain ⟨Ao12, co12, eo12⟩ := rL HO566.o; subst eo12; obtain ⟨Ao13, co13, eo13⟩ := rL HO569.o; subst eo13; obtain ⟨z14_0, z14_1, z14_2, f14_0, f14_1, f14_2⟩ := bq3 BK578; obtain ⟨Ao15, co15, eo15⟩ := rL HO573.o; subst eo15; obtain ⟨Ao16, co16, eo16⟩ := rL HO576.o; subst eo16) | ((with_reducible refine gC (f := 7) rfl ?_); refine goesL_ (some 20) rfl rfl Try.func7 (by kernel_rfl) rfl #[.agg #[.int .i64 t563, .slice Ao12 t564.length co12, .slice Ao13 t567.length co13], .agg #[.int .i64 t570, .slice Ao15 t571.length co15, .slice Ao16 t574.length co16]] rfl zG ?_; (with_reducible refine (impl_IsSafe.calls k t563 _ _ t564 _ _ t567 t570 _ _ t571 _ _ t574 t579 _ ?s1 ?s2 ?s3 ?s4 ?s5 ?s6 ?s7 ?s8 A5.o).mono ?_); (case s1 => refine (rQ (e := 4) (base := w.heap.size) (ok := fun k_ => some k_ ≠ (.slice Ao15 t571.length co15 : Value).ownBlock) (n := t564.length) (c := co12) ?_).2.2; exact (by (with_reducible repeat (first | apply rA | apply rN | apply rD)); exact (rM (rM (rB2 HO566 BK577 BK578) (fun _ h_ => h_.1)) (fun _ h_ => h_.1)))); (case s2 => exact (rQ HO566.o).2.1); (case s3 => refine (rQ (e := 46) (base := w.heap.size) (ok := fun k_ => some k_ ≠ (.slice Ao16 t574.length co16 : Value).ownBlock) (n := t567.length) (c := co13) ?_).2.2; exact (by (with_reducible repeat (first | apply rA | apply rN | apply rD)); exact (rM (rM (rB2 HO569 BK577 BK578) (fun _ h_ => h_.1)) (fun _ h_ => h_.1)))); (case s4 => exact (rQ HO569.o).2.1); (case s5 => refine (rQ (e := 4) (base := w.heap.size) (ok := fun k_ => some k_ ≠ (.slice Ao12 t564.length co12 : Value).ownBlock) (n := t571.length) (c := co15) ?_).2.2; exact (by (with_reducible repeat (first | apply rA | apply rN | apply rD)); exact (rM (rM (rB2 HO573 BK577 BK578) (fun _ h_ => h_.1)) (fun _ h_ => h_.1)))); (case s6 => exact (rQ HO573.o).2.1); (case s7 => refine (rQ (e := 46) (base := w.heap.size) (ok := fun k_ => some k_ ≠ (.slice Ao13 t567.length co13 : Value).ownBlock) (n := t574.length) (c := co16) ?_).2.2; exact (by (with_reducible repeat (first | apply rA | apply rN | apply rD)); exact (rM (rM (rB2 HO576 BK577 BK578) (fun _ h_ => h_.1)) (fun _ h_ => h_.1)))); (case s8 => exact (rQ HO576.o).2.1); rintro e w17 ⟨rfl, hb⟩; refine ⟨_, rfl, ?_⟩; replace HO566 := aM (rW (by (with_reducible repeat (first | apply rA | apply rN | apply rD)); exact (rM (rM (rB2 HO566 BK577 BK578) (fun _ h_ => h_.1)) (fun _ h_ => h_.1))) hb); replace HO569 := aM (rW (by (with_reducible repeat (first | apply rA | apply rN | apply rD)); exact (rM (rM (rB2 HO569 BK577 BK578) (fun _ h_ => h_.1)) (fun _ h_ => h_.1))) hb); replace HO573 := aM (rW (by (with_reducible repeat (first | apply rA | apply rN | apply rD)); exact (rM (rM (rB2 HO573 BK577 BK578) (fun _ h_ => h_.1)) (fun _ h_ => h_.1))) hb); replace HO576 := aM (rW (by (with_reducible repeat (first | apply rA | apply rN | apply rD)); exact (rM (rM (rB2 HO576 BK577 BK578) (fun _ h_ => h_.1)) (fun _ h_ => h_.1))) hb); replace BK577 := aM (blk_below (g := gb577) (o := .cells #[.int .i64 t563, .slice Ao12 t564.length co12, .slice Ao13 t567.length co13] 27 (0, 0)) (by (with_reducible repeat (first | apply bN | apply bD | apply bA)); refine bF ?_ NB577_578.o _; (with_reducible repeat (first | apply bN | apply bD | apply bA)); refine bF ?_ NB577_578.o _; (with_reducible repeat (first | apply bN | apply bD | apply bA)); refine bF ?_ NB577_578.o _; (with_reducible repeat (first | apply bN | apply bD | apply bA)); refine bP (cs := #[.int .i64 t563, .slice Ao12 t564.length co12, .slice none 0 0]) ?_ 2 _ rfl; (with_reducible repeat (first | apply bN | apply bD | apply bA)); refine bP (cs := #[.int .i64 t563, .slice none 0 0, .slice none 0 0]) ?_ 1 _ rfl; (with_reducible repeat (first | apply bN | apply bD | apply bA)); refine bP (cs := #[.int .i64 0, .slice none 0 0, .slice none 0 0]) ?_ 0 _ rfl; (with_reducible repeat (first | apply bN | apply bD | apply bA)); exact BK577.o) hb); replace BK578 := aM (blk_below (g := gb578) (o := .cells #[.int .i64 t570, .slice Ao15 t571.length co15, .slice Ao16 t574.length co16] 27 (0, 0)) (by (with_reducible repeat (first | apply bN | apply bD | apply bA)); refine bP (cs := #[.int .i64 t570, .slice Ao15 t571.length co15, .slice none 0 0]) ?_ 2 _ rfl; (with_reducible repeat (first | apply bN | apply bD | apply bA)); refine bP (cs := #[.int .i64 t570, .slice none 0 0, .slice none 0 0]) ?_ 1 _ rfl; (with_reducible repeat (first | apply bN | apply bD | apply bA)); refine bP (cs := #[.int .i64 0, .slice none 0 0, .slice none 0 0]) ?_ 0 _ rfl; (with_reducible repeat (first | apply bN | apply bD | apply bA)); refine bF ?_ NB578_577.o _; (with_reducible repeat (first | apply bN | apply bD | apply bA)); refine bF ?_ NB578_577.o _; (with_reducible repeat (first | apply bN | apply bD | apply bA)); refine bF ?_ NB578_577.o _; (with_reducible repeat (first | apply bN | apply bD | apply bA)); exact BK578.o) hb); replace HB := bS HB hb; (try clear hb)))
  (try simp only [Act.put, lA, lB, lC])
  go_cut [53] (fun v53 wc => ∃ (kq : Nat) (x53_5 : Bool), v53 = .bool x53_5 ∧ Aside0 (laws_FnPairs.j0 kq t579 x53_5 t563 t564 t567 t570 t571 t574 = some r) ∧ Aside0 (kq ≤ k) ∧ Aside0 (Kd.R Kd.bool 4 wc w.heap.size (fun k_ => some k_ ≠ ((.slice Ao15 t571.length co15) : Value).ownBlock) (.slice Ao12 t564.length co12) t564) ∧ Aside0 (Kd.R k46 46 wc w.heap.size (fun k_ => some k_ ≠ ((.slice Ao16 t574.length co16) : Value).ownBlock) (.slice Ao13 t567.length co13) t567) ∧ Aside0 (Kd.R Kd.bool 4 wc w.heap.size (fun k_ => some k_ ≠ ((.slice Ao12 t564.length co12) : Value).ownBlock) (.slice Ao15 t571.length co15) t571) ∧ Aside0 (Kd.R k46 46 wc w.heap.size (fun k_ => some k_ ≠ ((.slice Ao13 t567.length co13) : Value).ownBlock) (.slice Ao16 t574.length co16) t574) ∧ Aside0 (wc.heap[gb577]? = some (.cells #[.int .i64 t563, (.slice Ao12 t564.length co12), (.slice Ao13 t567.length co13)] 27 (0, 0))) ∧ Aside0 (wc.heap[gb578]? = some (.cells #[.int .i64 t570, (.slice Ao15 t571.length co15), (.slice Ao16 t574.length co16)] 27 (0, 0))) ∧ Aside0 (Below w.heap.size w wc))
  case first =>
   have H := HC6.o
   clear HC6
   obtain ⟨t580, A18, H⟩ := bindS H
   by_cases c19 : (t579 != t580) = true
   ·rw [if_pos c19] at H
    have c19b0 : (t579 != t580) = true := c19
    (try (have c19b1 : decide (t579 = t580) = false := by simpa using c19))
    (try (have c19b2 : (t579 == t580) = false := by simpa using c19))
    (try (have c19b3 : ¬ (t579 = t580) := by simpa using c19))
    clear c19
    (first | rw [c19b0] | (simp only [i64_w, i32_w]; rw [c19b0]) | skip)
    have H' := aM H
    clear H
    try go_wp2
    replace HO566 := aM (rD HO566.o)
    replace HO569 := aM (rD HO569.o)
    replace HO573 := aM (rD HO573.o)
    replace HO576 := aM (rD HO576.o)
    replace BK577 := aM (bD BK577.o)
    replace BK578 := aM (bD BK578.o)
    replace HB := aM (below_drew1 HB.o)
    refine start_ (n := 33) (S := fun w' => w'.cell? ⟨gb578, 0, none⟩ = some (.int .i64 t570) ∧ w'.cell? ⟨gb578, 1, none⟩ = some (.slice Ao15 t571.length co15) ∧ w'.cell? ⟨gb578, 2, none⟩ = some (.slice Ao16 t574.length co16) ∧ w'.cell? ⟨gb577, 0, none⟩ = some (.int .i64 t563) ∧ w'.cell? ⟨gb577, 1, none⟩ = some (.slice Ao12 t564.length co12) ∧ w'.cell? ⟨gb577, 2, none⟩ = some (.slice Ao13 t567.length co13)) (ds := []) (bm 33 0) (by kernel_rfl) rfl (bm0 _) ⟨bc0 BK578, bc1 BK578, bc2 BK578, bc0 BK577, bc1 BK577, bc2 BK577⟩ (fun hK4 => ?_); refine with_tabW laws_FnPairs.tab5 laws_FnPairs.bits5 (fun HT_ HW_ => ?_)
    generalize w17.drew = w20 at HO566 HO569 HO573 HO576 BK577 BK578 HB hK4 ⊢
    refine pW 0 21 33 1 HT_ rfl rfl ?_
    refine tW 1 22 33 3 HT_ HW_ rfl rfl hK4 ?_
    refine tW 2 23 33 7 HT_ HW_ rfl rfl hK4 ?_
    refine one_ (i := 3) (N := some 24) (bm 33 15) rfl rfl (one_of HT_.o (by kernel_rfl)) (by decide) (fun K hK => ?_)
    refine goes_ Try.func7 (by kernel_rfl) rfl #[.agg #[.int .i64 t570, .slice Ao15 t571.length co15, .slice Ao16 t574.length co16], .agg #[.int .i64 t563, .slice Ao12 t564.length co12, .slice Ao13 t567.length co13]] (by rfl) rfl rfl zG ?_
    with_reducible refine (impl_IsSafe.calls k t570 _ _ t571 _ _ t574 t563 _ _ t564 _ _ t567 t580 _ ?s1 ?s2 ?s3 ?s4 ?s5 ?s6 ?s7 ?s8 A18.o).mono ?_
    (case s1 => exact cU (rQ HO573.o).2.2)
    (case s2 => exact (rQ HO573.o).2.1)
    (case s3 => exact cU (rQ HO576.o).2.2)
    (case s4 => exact (rQ HO576.o).2.1)
    (case s5 => exact cU (rQ HO566.o).2.2)
    (case s6 => exact (rQ HO566.o).2.1)
    (case s7 => exact cU (rQ HO569.o).2.2)
    (case s8 => exact (rQ HO569.o).2.1)
    rintro e w21 ⟨rfl, hb⟩
    refine ⟨_, rfl, ?_⟩
    replace HO566 := aM (rW (zR HO566) hb)
    replace HO569 := aM (rW (zR HO569) hb)
    replace HO573 := aM (rW (zR HO573) hb)
    replace HO576 := aM (rW (zR HO576) hb)
    replace BK577 := kB BK577 hb
    replace BK578 := kB BK578 hb
    replace HB := bS HB hb
    (try clear hb); (try clear hb2); (try clear hk); (try clear hi)
    refine hK.out _ _ ⟨bc0 BK578, bc1 BK578, bc2 BK578, bc0 BK577, bc1 BK577, bc2 BK577⟩ (fun hK4 => ?_)
    clear hK K
    refine nU 24 ?_
    refine pW 4 25 33 31 HT_ rfl rfl ?_
    refine pW 5 26 33 63 HT_ rfl rfl ?_
    refine pV 6 (some 27) (bm 33 127) HT_ rfl rfl ?_
    refine pV 7 (some 28) (bm 33 255) HT_ rfl rfl ?_
    refine pV 8 (some 29) (bm 33 511) HT_ rfl rfl ?_
    refine pV 9 (some 30) (bm 33 1023) HT_ rfl rfl ?_
    refine pV 10 (some 31) (bm 33 2047) HT_ rfl rfl ?_
    refine pV 11 (some 32) (bm 33 4095) HT_ rfl rfl ?_
    refine pV 12 (some 33) (bm 33 8191) HT_ rfl rfl ?_
    refine pV 13 (some 34) (bm 33 16383) HT_ rfl rfl ?_
    refine pW 14 35 33 32767 HT_ rfl rfl ?_
    refine pW 15 36 33 65535 HT_ rfl rfl ?_
    refine pV 16 (some 37) (bm 33 131071) HT_ rfl rfl ?_
    refine pV 17 (some 38) (bm 33 262143) HT_ rfl rfl ?_
    refine pV 18 (some 39) (bm 33 524287) HT_ rfl rfl ?_
    refine pV 19 (some 40) (bm 33 1048575) HT_ rfl rfl ?_
    refine pV 20 (some 41) (bm 33 2097151) HT_ rfl rfl ?_
    refine pV 21 (some 42) (bm 33 4194303) HT_ rfl rfl ?_
    refine pV 22 (some 43) (bm 33 8388607) HT_ rfl rfl ?_
    refine pV 23 (some 44) (bm 33 16777215) HT_ rfl rfl ?_
    refine pV 24 (some 45) (bm 33 33554431) HT_ rfl rfl ?_
    refine pW 25 46 33 67108863 HT_ rfl rfl ?_
    refine pW 26 47 33 134217727 HT_ rfl rfl ?_
    refine pV 27 (some 48) (bm 33 268435455) HT_ rfl rfl ?_
    refine pV 28 (some 49) (bm 33 536870911) HT_ rfl rfl ?_
    refine pV 29 (some 50) (bm 33 1073741823) HT_ rfl rfl ?_
    refine pV 30 (some 51) (bm 33 2147483647) HT_ rfl rfl ?_
    refine pV 31 (some 52) (bm 33 4294967295) HT_ rfl rfl ?_
    refine pW 32 53 33 8589934591 HT_ rfl rfl ?_
    refine done_ (done_of HT_.o (by kernel_rfl)) ?_
    try clear hK4
    try go_wp2
    go_meet
    case rel => exact ⟨_, (true), zF, H', ⟨by first | omega | exact Nat.le_refl _⟩, ⟨zR HO566⟩, ⟨zR HO569⟩, ⟨zR HO573⟩, ⟨zR HO576⟩, ⟨zK BK577⟩, ⟨zK BK578⟩, ⟨zB HB⟩⟩
   ·rw [if_neg c19] at H
    have c19b0 : (t579 != t580) = false := by simpa using c19
    (try (have c19b1 : decide (t579 = t580) = true := by simpa using c19))
    (try (have c19b2 : (t579 == t580) = true := by simpa using c19))
    clear c19
    (first | rw [c19b0] | (simp only [i64_w, i32_w]; rw [c19b0]) | skip)
    by_cases c22 : t579 = true
    ·subst c22
     have H1 : ((impl_FirstTrouble.f k t563 t564 t567 t570 t571 t574).bind fun t581 => (if (t581.length : Int) > 0 then (laws_FnPairs.j0 k true true t563 t564 t567 t570 t571 t574) else ((impl_PairsOf.f k t563 t564 t567 t570 t571 t574).bind fun t584 => ((impl_PairsOf.f k t570 t571 t574 t563 t564 t567).bind fun t587 => (if (t584.length : Int) = (t587.length : Int) then ((impl_IsMachine.f k t563 t564 t567).bind fun t590 => ((spec_IsMachine.f k t563 t564 t567).bind fun t591 => (laws_FnPairs.j0 k true (t590 != t591) t563 t564 t567 t570 t571 t574))) else (laws_FnPairs.j0 k true true t563 t564 t567 t570 t571 t574)))))) = some r := by rw [if_pos rfl] at H; exact H
     clear H
     have H := H1
     clear H1
     obtain ⟨t581, A23, H⟩ := bindS H
     by_cases c24 : (t581.length : Int) > 0
     ·rw [if_pos c24] at H
      have c24b0 : decide (0 < (t581.length : Int)) = true := dT c24
      have c24b1 : decide (0 < t581.length) = true := dT (by omega)
      clear c24
      have H' := aM H
      clear H
      try go_wp2
      replace HO566 := aM (rD HO566.o)
      replace HO569 := aM (rD HO569.o)
      replace HO573 := aM (rD HO573.o)
      replace HO576 := aM (rD HO576.o)
      replace BK577 := aM (bD BK577.o)
      replace BK578 := aM (bD BK578.o)
      replace HB := aM (below_drew1 HB.o)
      refine start_ (n := 33) (S := fun w' => w'.cell? ⟨gb578, 0, none⟩ = some (.int .i64 t570) ∧ w'.cell? ⟨gb578, 1, none⟩ = some (.slice Ao15 t571.length co15) ∧ w'.cell? ⟨gb578, 2, none⟩ = some (.slice Ao16 t574.length co16) ∧ w'.cell? ⟨gb577, 0, none⟩ = some (.int .i64 t563) ∧ w'.cell? ⟨gb577, 1, none⟩ = some (.slice Ao12 t564.length co12) ∧ w'.cell? ⟨gb577, 2, none⟩ = some (.slice Ao13 t567.length co13)) (ds := []) (bm 33 0) (by kernel_rfl) rfl (bm0 _) ⟨bc0 BK578, bc1 BK578, bc2 BK578, bc0 BK577, bc1 BK577, bc2 BK577⟩ (fun hK4 => ?_); refine with_tabW laws_FnPairs.tab5 laws_FnPairs.bits5 (fun HT_ HW_ => ?_)
      generalize w17.drew = w25 at HO566 HO569 HO573 HO576 BK577 BK578 HB hK4 ⊢
      refine pW 0 21 33 1 HT_ rfl rfl ?_
      refine tW 1 22 33 3 HT_ HW_ rfl rfl hK4 ?_
      refine tW 2 23 33 7 HT_ HW_ rfl rfl hK4 ?_
      refine one_ (i := 3) (N := some 24) (bm 33 15) rfl rfl (one_of HT_.o (by kernel_rfl)) (by decide) (fun K hK => ?_)
      refine goes_ Try.func7 (by kernel_rfl) rfl #[.agg #[.int .i64 t570, .slice Ao15 t571.length co15, .slice Ao16 t574.length co16], .agg #[.int .i64 t563, .slice Ao12 t564.length co12, .slice Ao13 t567.length co13]] (by rfl) rfl rfl zG ?_
      with_reducible refine (impl_IsSafe.calls k t570 _ _ t571 _ _ t574 t563 _ _ t564 _ _ t567 t580 _ ?s1 ?s2 ?s3 ?s4 ?s5 ?s6 ?s7 ?s8 A18.o).mono ?_
      (case s1 => exact cU (rQ HO573.o).2.2)
      (case s2 => exact (rQ HO573.o).2.1)
      (case s3 => exact cU (rQ HO576.o).2.2)
      (case s4 => exact (rQ HO576.o).2.1)
      (case s5 => exact cU (rQ HO566.o).2.2)
      (case s6 => exact (rQ HO566.o).2.1)
      (case s7 => exact cU (rQ HO569.o).2.2)
      (case s8 => exact (rQ HO569.o).2.1)
      rintro e w26 ⟨rfl, hb⟩
      refine ⟨_, rfl, ?_⟩
      replace HO566 := aM (rW (zR HO566) hb)
      replace HO569 := aM (rW (zR HO569) hb)
      replace HO573 := aM (rW (zR HO573) hb)
      replace HO576 := aM (rW (zR HO576) hb)
      replace BK577 := kB BK577 hb
      replace BK578 := kB BK578 hb
      replace HB := bS HB hb
      (try clear hb); (try clear hb2); (try clear hk); (try clear hi)
      refine hK.out _ _ ⟨bc0 BK578, bc1 BK578, bc2 BK578, bc0 BK577, bc1 BK577, bc2 BK577⟩ (fun hK4 => ?_)
      clear hK K
      refine nU 24 ?_
      refine pW 4 25 33 31 HT_ rfl rfl ?_
      refine pW 5 26 33 63 HT_ rfl rfl ?_
      refine pW 6 27 33 127 HT_ rfl rfl ?_
      refine pW 7 28 33 255 HT_ rfl rfl ?_
      refine tW 8 29 33 511 HT_ HW_ rfl rfl hK4 ?_
      refine tW 9 30 33 1023 HT_ HW_ rfl rfl hK4 ?_
      refine one_ (i := 10) (N := some 31) (bm 33 2047) rfl rfl (one_of HT_.o (by kernel_rfl)) (by decide) (fun K hK => ?_)
      refine goes_ Try.func8 (by kernel_rfl) rfl #[.agg #[.int .i64 t563, .slice Ao12 t564.length co12, .slice Ao13 t567.length co13], .agg #[.int .i64 t570, .slice Ao15 t571.length co15, .slice Ao16 t574.length co16]] (by rfl) rfl rfl zG ?_
      with_reducible refine (impl_FirstTrouble.calls k t563 _ _ t564 _ _ t567 t570 _ _ t571 _ _ t574 t581 _ ?s1 ?s2 ?s3 ?s4 ?s5 ?s6 ?s7 ?s8 A23.o).mono ?_
      (case s1 => exact cU (rQ HO566.o).2.2)
      (case s2 => exact (rQ HO566.o).2.1)
      (case s3 => exact cU (rQ HO569.o).2.2)
      (case s4 => exact (rQ HO569.o).2.1)
      (case s5 => exact cU (rQ HO573.o).2.2)
      (case s6 => exact (rQ HO573.o).2.1)
      (case s7 => exact cU (rQ HO576.o).2.2)
      (case s8 => exact (rQ HO576.o).2.1)
      rintro e w27 ⟨v582, rfl, ho0, hb⟩
      refine ⟨_, rfl, ?_⟩
      replace HO566 := aM (rW (zR HO566) hb)
      replace HO569 := aM (rW (zR HO569) hb)
      replace HO573 := aM (rW (zR HO573) hb)
      replace HO576 := aM (rW (zR HO576) hb)
      have HO583 := aM (rO ho0 (bZ (zB HB)))
      replace BK577 := kB BK577 hb
      replace BK578 := kB BK578 hb
      replace HB := bS HB hb
      (try clear hb); (try clear hb2); (try clear hk); (try clear hi); (try clear ho0)
      obtain ⟨Ao28, co28, eo28⟩ := rL HO583.o
      (first | subst eo28 | (obtain ⟨f4_, f5_⟩ := slI eo28; subst f4_; subst f5_))
      refine hK.out _ _ ⟨bc0 BK578, bc1 BK578, bc2 BK578, bc0 BK577, bc1 BK577, bc2 BK577⟩ (fun hK4 => ?_)
      clear hK K
      refine nU 31 ?_
      refine pW 11 32 33 4095 HT_ rfl rfl ?_
      refine pW 12 33 33 8191 HT_ rfl rfl ?_
      refine pW 13 34 33 16383 HT_ rfl rfl ?_
      refine pW 14 35 33 32767 HT_ rfl rfl ?_
      refine pW 15 36 33 65535 HT_ rfl rfl ?_
      refine pV 16 (some 37) (bm 33 131071) HT_ rfl rfl ?_
      refine pV 17 (some 38) (bm 33 262143) HT_ rfl rfl ?_
      refine pV 18 (some 39) (bm 33 524287) HT_ rfl rfl ?_
      refine pV 19 (some 40) (bm 33 1048575) HT_ rfl rfl ?_
      refine pV 20 (some 41) (bm 33 2097151) HT_ rfl rfl ?_
      refine pV 21 (some 42) (bm 33 4194303) HT_ rfl rfl ?_
      refine pV 22 (some 43) (bm 33 8388607) HT_ rfl rfl ?_
      refine pV 23 (some 44) (bm 33 16777215) HT_ rfl rfl ?_
      refine pV 24 (some 45) (bm 33 33554431) HT_ rfl rfl ?_
      refine pW 25 46 33 67108863 HT_ rfl rfl ?_
      refine pW 26 47 33 134217727 HT_ rfl rfl ?_
      refine pV 27 (some 48) (bm 33 268435455) HT_ rfl rfl ?_
      refine pV 28 (some 49) (bm 33 536870911) HT_ rfl rfl ?_
      refine pV 29 (some 50) (bm 33 1073741823) HT_ rfl rfl ?_
      refine pV 30 (some 51) (bm 33 2147483647) HT_ rfl rfl ?_
      refine pV 31 (some 52) (bm 33 4294967295) HT_ rfl rfl ?_
      refine pW 32 53 33 8589934591 HT_ rfl rfl ?_
      refine done_ (done_of HT_.o (by kernel_rfl)) ?_
      try clear hK4
      try go_wp2
      go_meet
      case rel => exact ⟨_, (true), zF, H', ⟨by first | omega | exact Nat.le_refl _⟩, ⟨zR HO566⟩, ⟨zR HO569⟩, ⟨zR HO573⟩, ⟨zR HO576⟩, ⟨zK BK577⟩, ⟨zK BK578⟩, ⟨zB HB⟩⟩
     ·rw [if_neg c24] at H
      have c24b0 : decide (0 < (t581.length : Int)) = false := decide_eq_false c24
      have c24b1 : decide (0 < t581.length) = false := decide_eq_false (by omega)
      clear c24
      obtain ⟨t584, A29, H⟩ := bindS H
      obtain ⟨t587, A30, H⟩ := bindS H
      by_cases c31 : (t584.length : Int) = (t587.length : Int)
      ·rw [if_pos c31] at H
       have c31b0 : ((t584.length : Int) == (t587.length : Int)) = true := beq_iff_eq.mpr c31
       have c31b1 : ((t584.length : Int) != (t587.length : Int)) = false := bne_eq_false_iff_eq.mpr c31
       have c31b2 : (t584.length == t587.length) = true := by first | simpa using c31 | (simp at c31 ⊢; omega)
       clear c31
       obtain ⟨t590, A32, H⟩ := bindS H
       obtain ⟨t591, A33, H⟩ := bindS H
       have H' := aM H
       clear H
       try go_wp2
       replace HO566 := aM (rD HO566.o)
       replace HO569 := aM (rD HO569.o)
       replace HO573 := aM (rD HO573.o)
       replace HO576 := aM (rD HO576.o)
       replace BK577 := aM (bD BK577.o)
       replace BK578 := aM (bD BK578.o)
       replace HB := aM (below_drew1 HB.o)
       refine start_ (n := 33) (S := fun w' => w'.cell? ⟨gb578, 0, none⟩ = some (.int .i64 t570) ∧ w'.cell? ⟨gb578, 1, none⟩ = some (.slice Ao15 t571.length co15) ∧ w'.cell? ⟨gb578, 2, none⟩ = some (.slice Ao16 t574.length co16) ∧ w'.cell? ⟨gb577, 0, none⟩ = some (.int .i64 t563) ∧ w'.cell? ⟨gb577, 1, none⟩ = some (.slice Ao12 t564.length co12) ∧ w'.cell? ⟨gb577, 2, none⟩ = some (.slice Ao13 t567.length co13)) (ds := []) (bm 33 0) (by kernel_rfl) rfl (bm0 _) ⟨bc0 BK578, bc1 BK578, bc2 BK578, bc0 BK577, bc1 BK577, bc2 BK577⟩ (fun hK4 => ?_); refine with_tabW laws_FnPairs.tab5 laws_FnPairs.bits5 (fun HT_ HW_ => ?_)
       generalize w17.drew = w34 at HO566 HO569 HO573 HO576 BK577 BK578 HB hK4 ⊢
       refine pW 0 21 33 1 HT_ rfl rfl ?_
       refine tW 1 22 33 3 HT_ HW_ rfl rfl hK4 ?_
       refine tW 2 23 33 7 HT_ HW_ rfl rfl hK4 ?_
       refine one_ (i := 3) (N := some 24) (bm 33 15) rfl rfl (one_of HT_.o (by kernel_rfl)) (by decide) (fun K hK => ?_)
       refine goes_ Try.func7 (by kernel_rfl) rfl #[.agg #[.int .i64 t570, .slice Ao15 t571.length co15, .slice Ao16 t574.length co16], .agg #[.int .i64 t563, .slice Ao12 t564.length co12, .slice Ao13 t567.length co13]] (by rfl) rfl rfl zG ?_
       with_reducible refine (impl_IsSafe.calls k t570 _ _ t571 _ _ t574 t563 _ _ t564 _ _ t567 t580 _ ?s1 ?s2 ?s3 ?s4 ?s5 ?s6 ?s7 ?s8 A18.o).mono ?_
       (case s1 => exact cU (rQ HO573.o).2.2)
       (case s2 => exact (rQ HO573.o).2.1)
       (case s3 => exact cU (rQ HO576.o).2.2)
       (case s4 => exact (rQ HO576.o).2.1)
       (case s5 => exact cU (rQ HO566.o).2.2)
       (case s6 => exact (rQ HO566.o).2.1)
       (case s7 => exact cU (rQ HO569.o).2.2)
       (case s8 => exact (rQ HO569.o).2.1)
       rintro e w35 ⟨rfl, hb⟩
       refine ⟨_, rfl, ?_⟩
       replace HO566 := aM (rW (zR HO566) hb)
       replace HO569 := aM (rW (zR HO569) hb)
       replace HO573 := aM (rW (zR HO573) hb)
       replace HO576 := aM (rW (zR HO576) hb)
       replace BK577 := kB BK577 hb
       replace BK578 := kB BK578 hb
       replace HB := bS HB hb
       (try clear hb); (try clear hb2); (try clear hk); (try clear hi)
       refine hK.out _ _ ⟨bc0 BK578, bc1 BK578, bc2 BK578, bc0 BK577, bc1 BK577, bc2 BK577⟩ (fun hK4 => ?_)
       clear hK K
       refine nU 24 ?_
       refine pW 4 25 33 31 HT_ rfl rfl ?_
       refine pW 5 26 33 63 HT_ rfl rfl ?_
       refine pW 6 27 33 127 HT_ rfl rfl ?_
       refine pW 7 28 33 255 HT_ rfl rfl ?_
       refine tW 8 29 33 511 HT_ HW_ rfl rfl hK4 ?_
       refine tW 9 30 33 1023 HT_ HW_ rfl rfl hK4 ?_
       refine one_ (i := 10) (N := some 31) (bm 33 2047) rfl rfl (one_of HT_.o (by kernel_rfl)) (by decide) (fun K hK => ?_)
       refine goes_ Try.func8 (by kernel_rfl) rfl #[.agg #[.int .i64 t563, .slice Ao12 t564.length co12, .slice Ao13 t567.length co13], .agg #[.int .i64 t570, .slice Ao15 t571.length co15, .slice Ao16 t574.length co16]] (by rfl) rfl rfl zG ?_
       with_reducible refine (impl_FirstTrouble.calls k t563 _ _ t564 _ _ t567 t570 _ _ t571 _ _ t574 t581 _ ?s1 ?s2 ?s3 ?s4 ?s5 ?s6 ?s7 ?s8 A23.o).mono ?_
       (case s1 => exact cU (rQ HO566.o).2.2)
       (case s2 => exact (rQ HO566.o).2.1)
       (case s3 => exact cU (rQ HO569.o).2.2)
       (case s4 => exact (rQ HO569.o).2.1)
       (case s5 => exact cU (rQ HO573.o).2.2)
       (case s6 => exact (rQ HO573.o).2.1)
       (case s7 => exact cU (rQ HO576.o).2.2)
       (case s8 => exact (rQ HO576.o).2.1)
       rintro e w36 ⟨v582, rfl, ho0, hb⟩
       refine ⟨_, rfl, ?_⟩
       replace HO566 := aM (rW (zR HO566) hb)
       replace HO569 := aM (rW (zR HO569) hb)
       replace HO573 := aM (rW (zR HO573) hb)
       replace HO576 := aM (rW (zR HO576) hb)
       have HO583 := aM (rO ho0 (bZ (zB HB)))
       replace BK577 := kB BK577 hb
       replace BK578 := kB BK578 hb
       replace HB := bS HB hb
       (try clear hb); (try clear hb2); (try clear hk); (try clear hi); (try clear ho0)
       obtain ⟨Ao37, co37, eo37⟩ := rL HO583.o
       (first | subst eo37 | (obtain ⟨f4_, f5_⟩ := slI eo37; subst f4_; subst f5_))
       refine hK.out _ _ ⟨bc0 BK578, bc1 BK578, bc2 BK578, bc0 BK577, bc1 BK577, bc2 BK577⟩ (fun hK4 => ?_)
       clear hK K
       refine nU 31 ?_
       refine pW 11 32 33 4095 HT_ rfl rfl ?_
       refine pW 12 33 33 8191 HT_ rfl rfl ?_
       refine pW 13 34 33 16383 HT_ rfl rfl ?_
       refine pW 14 35 33 32767 HT_ rfl rfl ?_
       refine pW 15 36 33 65535 HT_ rfl rfl ?_
       refine tW 16 37 33 131071 HT_ HW_ rfl rfl hK4 ?_
       refine tW 17 38 33 262143 HT_ HW_ rfl rfl hK4 ?_
       refine tW 20 41 33 1310719 HT_ HW_ rfl rfl hK4 ?_
       refine tW 21 42 33 3407871 HT_ HW_ rfl rfl hK4 ?_
       refine one_ (i := 18) (N := some 39) (bm 33 3670015) rfl rfl (one_of HT_.o (by kernel_rfl)) (by decide) (fun K hK => ?_)
       refine goes_ Try.func9 (by kernel_rfl) rfl #[.agg #[.int .i64 t563, .slice Ao12 t564.length co12, .slice Ao13 t567.length co13], .agg #[.int .i64 t570, .slice Ao15 t571.length co15, .slice Ao16 t574.length co16]] (by rfl) rfl rfl zG ?_
       with_reducible refine (impl_PairsOf.calls k t563 _ _ t564 _ _ t567 t570 _ _ t571 _ _ t574 t584 _ ?s1 ?s2 ?s3 ?s4 ?s5 ?s6 ?s7 ?s8 A29.o).mono ?_
       (case s1 => exact cU (rQ HO566.o).2.2)
       (case s2 => exact (rQ HO566.o).2.1)
       (case s3 => exact cU (rQ HO569.o).2.2)
       (case s4 => exact (rQ HO569.o).2.1)
       (case s5 => exact cU (rQ HO573.o).2.2)
       (case s6 => exact (rQ HO573.o).2.1)
       (case s7 => exact cU (rQ HO576.o).2.2)
       (case s8 => exact (rQ HO576.o).2.1)
       rintro e w38 ⟨v585, rfl, ho0, hb⟩
       refine ⟨_, rfl, ?_⟩
       replace HO566 := aM (rW (zR HO566) hb)
       replace HO569 := aM (rW (zR HO569) hb)
       replace HO573 := aM (rW (zR HO573) hb)
       replace HO576 := aM (rW (zR HO576) hb)
       have HO586 := aM (Kd.S_lower (Kd.S_new' ho0 (Kd.R_lt (zR HO583))) (bZ (zB HB)))
       replace HO583 := aM (rW (zR HO583) hb)
       replace BK577 := kB BK577 hb
       replace BK578 := kB BK578 hb
       replace HB := bS HB hb
       (try clear hb); (try clear hb2); (try clear hk); (try clear hi); (try clear ho0)
       obtain ⟨Ao39, co39, eo39⟩ := Kd.S_slice HO586.o
       (first | subst eo39 | (obtain ⟨f4_, f5_⟩ := slI eo39; subst f4_; subst f5_))
       refine hK.out _ _ ⟨bc0 BK578, bc1 BK578, bc2 BK578, bc0 BK577, bc1 BK577, bc2 BK577⟩ (fun hK4 => ?_)
       clear hK K
       refine nU 39 ?_
       refine pW 19 40 33 4194303 HT_ rfl rfl ?_
       refine one_ (i := 22) (N := some 43) (bm 33 8388607) rfl rfl (one_of HT_.o (by kernel_rfl)) (by decide) (fun K hK => ?_)
       refine goes_ Try.func9 (by kernel_rfl) rfl #[.agg #[.int .i64 t570, .slice Ao15 t571.length co15, .slice Ao16 t574.length co16], .agg #[.int .i64 t563, .slice Ao12 t564.length co12, .slice Ao13 t567.length co13]] (by rfl) rfl rfl zG ?_
       with_reducible refine (impl_PairsOf.calls k t570 _ _ t571 _ _ t574 t563 _ _ t564 _ _ t567 t587 _ ?s1 ?s2 ?s3 ?s4 ?s5 ?s6 ?s7 ?s8 A30.o).mono ?_
       (case s1 => exact cU (rQ HO573.o).2.2)
       (case s2 => exact (rQ HO573.o).2.1)
       (case s3 => exact cU (rQ HO576.o).2.2)
       (case s4 => exact (rQ HO576.o).2.1)
       (case s5 => exact cU (rQ HO566.o).2.2)
       (case s6 => exact (rQ HO566.o).2.1)
       (case s7 => exact cU (rQ HO569.o).2.2)
       (case s8 => exact (rQ HO569.o).2.1)
       rintro e w40 ⟨v588, rfl, ho0, hb⟩
       refine ⟨_, rfl, ?_⟩
       replace HO566 := aM (rW (zR HO566) hb)
       replace HO569 := aM (rW (zR HO569) hb)
       replace HO573 := aM (rW (zR HO573) hb)
       replace HO576 := aM (rW (zR HO576) hb)
       have HO589 := aM (Kd.S_lower (Kd.S_new' (Kd.S_new' ho0 (Kd.R_lt (zR HO583))) (Kd.S_lt (zS HO586))) (bZ (zB HB)))
       replace HO583 := aM (rW (zR HO583) hb)
       replace HO586 := aM (Kd.S_elder' (zS HO586) (Kd.S_base ho0) hb)
       replace BK577 := kB BK577 hb
       replace BK578 := kB BK578 hb
       replace HB := bS HB hb
       (try clear hb); (try clear hb2); (try clear hk); (try clear hi); (try clear ho0)
       obtain ⟨Ao41, co41, eo41⟩ := Kd.S_slice HO589.o
       (first | subst eo41 | (obtain ⟨f4_, f5_⟩ := slI eo41; subst f4_; subst f5_))
       refine hK.out _ _ ⟨bc0 BK578, bc1 BK578, bc2 BK578, bc0 BK577, bc1 BK577, bc2 BK577⟩ (fun hK4 => ?_)
       clear hK K
       refine nU 43 ?_
       refine pW 23 44 33 16777215 HT_ rfl rfl ?_
       refine pW 24 45 33 33554431 HT_ rfl rfl ?_
       refine pW 25 46 33 67108863 HT_ rfl rfl ?_
       refine pW 26 47 33 134217727 HT_ rfl rfl ?_
       refine tW 27 48 33 268435455 HT_ HW_ rfl rfl hK4 ?_
       refine tW 29 50 33 805306367 HT_ HW_ rfl rfl hK4 ?_
       refine one_ (i := 28) (N := some 49) (bm 33 1073741823) rfl rfl (one_of HT_.o (by kernel_rfl)) (by decide) (fun K hK => ?_)
       refine goes_ Try.func10 (by kernel_rfl) rfl #[.agg #[.int .i64 t563, .slice Ao12 t564.length co12, .slice Ao13 t567.length co13]] (by rfl) rfl rfl zG ?_
       with_reducible refine (impl_IsMachine.calls k t563 _ _ t564 _ _ t567 t590 _ ?s1 ?s2 ?s3 ?s4 A32.o).mono ?_
       (case s1 => exact cU (rQ HO566.o).2.2)
       (case s2 => exact (rQ HO566.o).2.1)
       (case s3 => exact cU (rQ HO569.o).2.2)
       (case s4 => exact (rQ HO569.o).2.1)
       rintro e w42 ⟨rfl, hb⟩
       refine ⟨_, rfl, ?_⟩
       replace HO566 := aM (rW (zR HO566) hb)
       replace HO569 := aM (rW (zR HO569) hb)
       replace HO573 := aM (rW (zR HO573) hb)
       replace HO576 := aM (rW (zR HO576) hb)
       replace HO583 := aM (rW (zR HO583) hb)
       replace HO586 := aM (Kd.S_below (zS HO586) hb)
       replace HO589 := aM (Kd.S_below (zS HO589) hb)
       replace BK577 := kB BK577 hb
       replace BK578 := kB BK578 hb
       replace HB := bS HB hb
       (try clear hb); (try clear hb2); (try clear hk); (try clear hi)
       refine hK.out _ _ ⟨bc0 BK578, bc1 BK578, bc2 BK578, bc0 BK577, bc1 BK577, bc2 BK577⟩ (fun hK4 => ?_)
       clear hK K
       refine nU 49 ?_
       refine one_ (i := 30) (N := some 51) (bm 33 2147483647) rfl rfl (one_of HT_.o (by kernel_rfl)) (by decide) (fun K hK => ?_)
       refine goes_ Try.func11 (by kernel_rfl) rfl #[.agg #[.int .i64 t563, .slice Ao12 t564.length co12, .slice Ao13 t567.length co13]] (by rfl) rfl rfl zG ?_
       with_reducible refine (spec_IsMachine.calls k t563 _ _ t564 _ _ t567 t591 _ ?s1 ?s2 ?s3 ?s4 A33.o).mono ?_
       (case s1 => exact cU (rQ HO566.o).2.2)
       (case s2 => exact (rQ HO566.o).2.1)
       (case s3 => exact cU (rQ HO569.o).2.2)
       (case s4 => exact (rQ HO569.o).2.1)
       rintro e w43 ⟨rfl, hb⟩
       refine ⟨_, rfl, ?_⟩
       replace HO566 := aM (rW (zR HO566) hb)
       replace HO569 := aM (rW (zR HO569) hb)
       replace HO573 := aM (rW (zR HO573) hb)
       replace HO576 := aM (rW (zR HO576) hb)
       replace HO583 := aM (rW (zR HO583) hb)
       replace HO586 := aM (Kd.S_below (zS HO586) hb)
       replace HO589 := aM (Kd.S_below (zS HO589) hb)
       replace BK577 := kB BK577 hb
       replace BK578 := kB BK578 hb
       replace HB := bS HB hb
       (try clear hb); (try clear hb2); (try clear hk); (try clear hi)
       refine hK.out _ _ ⟨bc0 BK578, bc1 BK578, bc2 BK578, bc0 BK577, bc1 BK577, bc2 BK577⟩ (fun hK4 => ?_)
       clear hK K
       refine nU 51 ?_
       refine pW 31 52 33 4294967295 HT_ rfl rfl ?_
       refine pW 32 53 33 8589934591 HT_ rfl rfl ?_
       refine done_ (done_of HT_.o (by kernel_rfl)) ?_
       try clear hK4
       try go_wp2
       go_meet
       case rel => exact ⟨_, ((t590 != t591)), zF, H', ⟨by first | omega | exact Nat.le_refl _⟩, ⟨zR HO566⟩, ⟨zR HO569⟩, ⟨zR HO573⟩, ⟨zR HO576⟩, ⟨zK BK577⟩, ⟨zK BK578⟩, ⟨zB HB⟩⟩
      ·rw [if_neg c31] at H
       have c31b0 : ((t584.length : Int) == (t587.length : Int)) = false := beq_eq_false_iff_ne.mpr c31
       have c31b1 : ((t584.length : Int) != (t587.length : Int)) = true := bne_iff_ne.mpr c31
       have c31b2 : (t584.length == t587.length) = false := by first | simpa using c31 | (simp at c31 ⊢; omega)
       have H' := aM H
       clear H
       try go_wp2
       replace HO566 := aM (rD HO566.o)
       replace HO569 := aM (rD HO569.o)
       replace HO573 := aM (rD HO573.o)
       replace HO576 := aM (rD HO576.o)
       replace BK577 := aM (bD BK577.o)
       replace BK578 := aM (bD BK578.o)
       replace HB := aM (below_drew1 HB.o)
       refine start_ (n := 33) (S := fun w' => w'.cell? ⟨gb578, 0, none⟩ = some (.int .i64 t570) ∧ w'.cell? ⟨gb578, 1, none⟩ = some (.slice Ao15 t571.length co15) ∧ w'.cell? ⟨gb578, 2, none⟩ = some (.slice Ao16 t574.length co16) ∧ w'.cell? ⟨gb577, 0, none⟩ = some (.int .i64 t563) ∧ w'.cell? ⟨gb577, 1, none⟩ = some (.slice Ao12 t564.length co12) ∧ w'.cell? ⟨gb577, 2, none⟩ = some (.slice Ao13 t567.length co13)) (ds := []) (bm 33 0) (by kernel_rfl) rfl (bm0 _) ⟨bc0 BK578, bc1 BK578, bc2 BK578, bc0 BK577, bc1 BK577, bc2 BK577⟩ (fun hK4 => ?_); refine with_tabW laws_FnPairs.tab5 laws_FnPairs.bits5 (fun HT_ HW_ => ?_)
       generalize w17.drew = w44 at HO566 HO569 HO573 HO576 BK577 BK578 HB hK4 ⊢
       refine pW 0 21 33 1 HT_ rfl rfl ?_
       refine tW 1 22 33 3 HT_ HW_ rfl rfl hK4 ?_
       refine tW 2 23 33 7 HT_ HW_ rfl rfl hK4 ?_
       refine one_ (i := 3) (N := some 24) (bm 33 15) rfl rfl (one_of HT_.o (by kernel_rfl)) (by decide) (fun K hK => ?_)
       refine goes_ Try.func7 (by kernel_rfl) rfl #[.agg #[.int .i64 t570, .slice Ao15 t571.length co15, .slice Ao16 t574.length co16], .agg #[.int .i64 t563, .slice Ao12 t564.length co12, .slice Ao13 t567.length co13]] (by rfl) rfl rfl zG ?_
       with_reducible refine (impl_IsSafe.calls k t570 _ _ t571 _ _ t574 t563 _ _ t564 _ _ t567 t580 _ ?s1 ?s2 ?s3 ?s4 ?s5 ?s6 ?s7 ?s8 A18.o).mono ?_
       (case s1 => exact cU (rQ HO573.o).2.2)
       (case s2 => exact (rQ HO573.o).2.1)
       (case s3 => exact cU (rQ HO576.o).2.2)
       (case s4 => exact (rQ HO576.o).2.1)
       (case s5 => exact cU (rQ HO566.o).2.2)
       (case s6 => exact (rQ HO566.o).2.1)
       (case s7 => exact cU (rQ HO569.o).2.2)
       (case s8 => exact (rQ HO569.o).2.1)
       rintro e w45 ⟨rfl, hb⟩
       refine ⟨_, rfl, ?_⟩
       replace HO566 := aM (rW (zR HO566) hb)
       replace HO569 := aM (rW (zR HO569) hb)
       replace HO573 := aM (rW (zR HO573) hb)
       replace HO576 := aM (rW (zR HO576) hb)
       replace BK577 := kB BK577 hb
       replace BK578 := kB BK578 hb
       replace HB := bS HB hb
       (try clear hb); (try clear hb2); (try clear hk); (try clear hi)
       refine hK.out _ _ ⟨bc0 BK578, bc1 BK578, bc2 BK578, bc0 BK577, bc1 BK577, bc2 BK577⟩ (fun hK4 => ?_)
       clear hK K
       refine nU 24 ?_
       refine pW 4 25 33 31 HT_ rfl rfl ?_
       refine pW 5 26 33 63 HT_ rfl rfl ?_
       refine pW 6 27 33 127 HT_ rfl rfl ?_
       refine pW 7 28 33 255 HT_ rfl rfl ?_
       refine tW 8 29 33 511 HT_ HW_ rfl rfl hK4 ?_
       refine tW 9 30 33 1023 HT_ HW_ rfl rfl hK4 ?_
       refine one_ (i := 10) (N := some 31) (bm 33 2047) rfl rfl (one_of HT_.o (by kernel_rfl)) (by decide) (fun K hK => ?_)
       refine goes_ Try.func8 (by kernel_rfl) rfl #[.agg #[.int .i64 t563, .slice Ao12 t564.length co12, .slice Ao13 t567.length co13], .agg #[.int .i64 t570, .slice Ao15 t571.length co15, .slice Ao16 t574.length co16]] (by rfl) rfl rfl zG ?_
       with_reducible refine (impl_FirstTrouble.calls k t563 _ _ t564 _ _ t567 t570 _ _ t571 _ _ t574 t581 _ ?s1 ?s2 ?s3 ?s4 ?s5 ?s6 ?s7 ?s8 A23.o).mono ?_
       (case s1 => exact cU (rQ HO566.o).2.2)
       (case s2 => exact (rQ HO566.o).2.1)
       (case s3 => exact cU (rQ HO569.o).2.2)
       (case s4 => exact (rQ HO569.o).2.1)
       (case s5 => exact cU (rQ HO573.o).2.2)
       (case s6 => exact (rQ HO573.o).2.1)
       (case s7 => exact cU (rQ HO576.o).2.2)
       (case s8 => exact (rQ HO576.o).2.1)
       rintro e w46 ⟨v582, rfl, ho0, hb⟩
       refine ⟨_, rfl, ?_⟩
       replace HO566 := aM (rW (zR HO566) hb)
       replace HO569 := aM (rW (zR HO569) hb)
       replace HO573 := aM (rW (zR HO573) hb)
       replace HO576 := aM (rW (zR HO576) hb)
       have HO583 := aM (rO ho0 (bZ (zB HB)))
       replace BK577 := kB BK577 hb
       replace BK578 := kB BK578 hb
       replace HB := bS HB hb
       (try clear hb); (try clear hb2); (try clear hk); (try clear hi); (try clear ho0)
       obtain ⟨Ao47, co47, eo47⟩ := rL HO583.o
       (first | subst eo47 | (obtain ⟨f4_, f5_⟩ := slI eo47; subst f4_; subst f5_))
       refine hK.out _ _ ⟨bc0 BK578, bc1 BK578, bc2 BK578, bc0 BK577, bc1 BK577, bc2 BK577⟩ (fun hK4 => ?_)
       clear hK K
       refine nU 31 ?_
       refine pW 11 32 33 4095 HT_ rfl rfl ?_
       refine pW 12 33 33 8191 HT_ rfl rfl ?_
       refine pW 13 34 33 16383 HT_ rfl rfl ?_
       refine pW 14 35 33 32767 HT_ rfl rfl ?_
       refine pW 15 36 33 65535 HT_ rfl rfl ?_
       refine tW 16 37 33 131071 HT_ HW_ rfl rfl hK4 ?_
       refine tW 17 38 33 262143 HT_ HW_ rfl rfl hK4 ?_
       refine tW 20 41 33 1310719 HT_ HW_ rfl rfl hK4 ?_
       refine tW 21 42 33 3407871 HT_ HW_ rfl rfl hK4 ?_
       refine one_ (i := 18) (N := some 39) (bm 33 3670015) rfl rfl (one_of HT_.o (by kernel_rfl)) (by decide) (fun K hK => ?_)
       refine goes_ Try.func9 (by kernel_rfl) rfl #[.agg #[.int .i64 t563, .slice Ao12 t564.length co12, .slice Ao13 t567.length co13], .agg #[.int .i64 t570, .slice Ao15 t571.length co15, .slice Ao16 t574.length co16]] (by rfl) rfl rfl zG ?_
       with_reducible refine (impl_PairsOf.calls k t563 _ _ t564 _ _ t567 t570 _ _ t571 _ _ t574 t584 _ ?s1 ?s2 ?s3 ?s4 ?s5 ?s6 ?s7 ?s8 A29.o).mono ?_
       (case s1 => exact cU (rQ HO566.o).2.2)
       (case s2 => exact (rQ HO566.o).2.1)
       (case s3 => exact cU (rQ HO569.o).2.2)
       (case s4 => exact (rQ HO569.o).2.1)
       (case s5 => exact cU (rQ HO573.o).2.2)
       (case s6 => exact (rQ HO573.o).2.1)
       (case s7 => exact cU (rQ HO576.o).2.2)
       (case s8 => exact (rQ HO576.o).2.1)
       rintro e w48 ⟨v585, rfl, ho0, hb⟩
       refine ⟨_, rfl, ?_⟩
       replace HO566 := aM (rW (zR HO566) hb)
       replace HO569 := aM (rW (zR HO569) hb)
       replace HO573 := aM (rW (zR HO573) hb)
       replace HO576 := aM (rW (zR HO576) hb)
       have HO586 := aM (Kd.S_lower (Kd.S_new' ho0 (Kd.R_lt (zR HO583))) (bZ (zB HB)))
       replace HO583 := aM (rW (zR HO583) hb)
       replace BK577 := kB BK577 hb
       replace BK578 := kB BK578 hb
       replace HB := bS HB hb
       (try clear hb); (try clear hb2); (try clear hk); (try clear hi); (try clear ho0)
       obtain ⟨Ao49, co49, eo49⟩ := Kd.S_slice HO586.o
       (first | subst eo49 | (obtain ⟨f4_, f5_⟩ := slI eo49; subst f4_; subst f5_))
       refine hK.out _ _ ⟨bc0 BK578, bc1 BK578, bc2 BK578, bc0 BK577, bc1 BK577, bc2 BK577⟩ (fun hK4 => ?_)
       clear hK K
       refine nU 39 ?_
       refine pW 19 40 33 4194303 HT_ rfl rfl ?_
       refine one_ (i := 22) (N := some 43) (bm 33 8388607) rfl rfl (one_of HT_.o (by kernel_rfl)) (by decide) (fun K hK => ?_)
       refine goes_ Try.func9 (by kernel_rfl) rfl #[.agg #[.int .i64 t570, .slice Ao15 t571.length co15, .slice Ao16 t574.length co16], .agg #[.int .i64 t563, .slice Ao12 t564.length co12, .slice Ao13 t567.length co13]] (by rfl) rfl rfl zG ?_
       with_reducible refine (impl_PairsOf.calls k t570 _ _ t571 _ _ t574 t563 _ _ t564 _ _ t567 t587 _ ?s1 ?s2 ?s3 ?s4 ?s5 ?s6 ?s7 ?s8 A30.o).mono ?_
       (case s1 => exact cU (rQ HO573.o).2.2)
       (case s2 => exact (rQ HO573.o).2.1)
       (case s3 => exact cU (rQ HO576.o).2.2)
       (case s4 => exact (rQ HO576.o).2.1)
       (case s5 => exact cU (rQ HO566.o).2.2)
       (case s6 => exact (rQ HO566.o).2.1)
       (case s7 => exact cU (rQ HO569.o).2.2)
       (case s8 => exact (rQ HO569.o).2.1)
       rintro e w50 ⟨v588, rfl, ho0, hb⟩
       refine ⟨_, rfl, ?_⟩
       replace HO566 := aM (rW (zR HO566) hb)
       replace HO569 := aM (rW (zR HO569) hb)
       replace HO573 := aM (rW (zR HO573) hb)
       replace HO576 := aM (rW (zR HO576) hb)
       have HO589 := aM (Kd.S_lower (Kd.S_new' (Kd.S_new' ho0 (Kd.R_lt (zR HO583))) (Kd.S_lt (zS HO586))) (bZ (zB HB)))
       replace HO583 := aM (rW (zR HO583) hb)
       replace HO586 := aM (Kd.S_elder' (zS HO586) (Kd.S_base ho0) hb)
       replace BK577 := kB BK577 hb
       replace BK578 := kB BK578 hb
       replace HB := bS HB hb
       (try clear hb); (try clear hb2); (try clear hk); (try clear hi); (try clear ho0)
       obtain ⟨Ao51, co51, eo51⟩ := Kd.S_slice HO589.o
       (first | subst eo51 | (obtain ⟨f4_, f5_⟩ := slI eo51; subst f4_; subst f5_))
       refine hK.out _ _ ⟨bc0 BK578, bc1 BK578, bc2 BK578, bc0 BK577, bc1 BK577, bc2 BK577⟩ (fun hK4 => ?_)
       clear hK K
       refine nU 43 ?_
       refine pW 23 44 33 16777215 HT_ rfl rfl ?_
       refine pW 24 45 33 33554431 HT_ rfl rfl ?_
       refine pW 25 46 33 67108863 HT_ rfl rfl ?_
       refine pW 26 47 33 134217727 HT_ rfl rfl ?_
       refine pV 27 (some 48) (bm 33 268435455) HT_ rfl rfl ?_
       refine pV 28 (some 49) (bm 33 536870911) HT_ rfl rfl ?_
       refine pV 29 (some 50) (bm 33 1073741823) HT_ rfl rfl ?_
       refine pV 30 (some 51) (bm 33 2147483647) HT_ rfl rfl ?_
       refine pV 31 (some 52) (bm 33 4294967295) HT_ rfl rfl ?_
       refine pW 32 53 33 8589934591 HT_ rfl rfl ?_
       refine done_ (done_of HT_.o (by kernel_rfl)) ?_
       try clear hK4
       try go_wp2
       go_meet
       case rel => exact ⟨_, (true), zF, H', ⟨by first | omega | exact Nat.le_refl _⟩, ⟨zR HO566⟩, ⟨zR HO569⟩, ⟨zR HO573⟩, ⟨zR HO576⟩, ⟨zK BK577⟩, ⟨zK BK578⟩, ⟨zB HB⟩⟩
    ·replace c22 := Bool.eq_false_iff.mpr c22
     subst c22
     have H1 : ((impl_PairsOf.f k t563 t564 t567 t570 t571 t574).bind fun t592 => ((impl_PairsOf.f k t570 t571 t574 t563 t564 t567).bind fun t595 => (if (t592.length : Int) = (t595.length : Int) then ((impl_IsMachine.f k t563 t564 t567).bind fun t598 => ((spec_IsMachine.f k t563 t564 t567).bind fun t599 => (laws_FnPairs.j0 k false (t598 != t599) t563 t564 t567 t570 t571 t574))) else (laws_FnPairs.j0 k false true t563 t564 t567 t570 t571 t574)))) = some r := by rw [if_neg (show ¬ (false = true) by decide)] at H; exact H
     clear H
     have H := H1
     clear H1
     obtain ⟨t592, A52, H⟩ := bindS H
     obtain ⟨t595, A53, H⟩ := bindS H
     by_cases c54 : (t592.length : Int) = (t595.length : Int)
     ·rw [if_pos c54] at H
      have c54b0 : ((t592.length : Int) == (t595.length : Int)) = true := beq_iff_eq.mpr c54
      have c54b1 : ((t592.length : Int) != (t595.length : Int)) = false := bne_eq_false_iff_eq.mpr c54
      have c54b2 : (t592.length == t595.length) = true := by first | simpa using c54 | (simp at c54 ⊢; omega)
      clear c54
      obtain ⟨t598, A55, H⟩ := bindS H
      obtain ⟨t599, A56, H⟩ := bindS H
      have H' := aM H
      clear H
      try go_wp2
      replace HO566 := aM (rD HO566.o)
      replace HO569 := aM (rD HO569.o)
      replace HO573 := aM (rD HO573.o)
      replace HO576 := aM (rD HO576.o)
      replace BK577 := aM (bD BK577.o)
      replace BK578 := aM (bD BK578.o)
      replace HB := aM (below_drew1 HB.o)
      refine start_ (n := 33) (S := fun w' => w'.cell? ⟨gb578, 0, none⟩ = some (.int .i64 t570) ∧ w'.cell? ⟨gb578, 1, none⟩ = some (.slice Ao15 t571.length co15) ∧ w'.cell? ⟨gb578, 2, none⟩ = some (.slice Ao16 t574.length co16) ∧ w'.cell? ⟨gb577, 0, none⟩ = some (.int .i64 t563) ∧ w'.cell? ⟨gb577, 1, none⟩ = some (.slice Ao12 t564.length co12) ∧ w'.cell? ⟨gb577, 2, none⟩ = some (.slice Ao13 t567.length co13)) (ds := []) (bm 33 0) (by kernel_rfl) rfl (bm0 _) ⟨bc0 BK578, bc1 BK578, bc2 BK578, bc0 BK577, bc1 BK577, bc2 BK577⟩ (fun hK4 => ?_); refine with_tabW laws_FnPairs.tab5 laws_FnPairs.bits5 (fun HT_ HW_ => ?_)
      generalize w17.drew = w57 at HO566 HO569 HO573 HO576 BK577 BK578 HB hK4 ⊢
      refine pW 0 21 33 1 HT_ rfl rfl ?_
      refine tW 1 22 33 3 HT_ HW_ rfl rfl hK4 ?_
      refine tW 2 23 33 7 HT_ HW_ rfl rfl hK4 ?_
      refine one_ (i := 3) (N := some 24) (bm 33 15) rfl rfl (one_of HT_.o (by kernel_rfl)) (by decide) (fun K hK => ?_)
      refine goes_ Try.func7 (by kernel_rfl) rfl #[.agg #[.int .i64 t570, .slice Ao15 t571.length co15, .slice Ao16 t574.length co16], .agg #[.int .i64 t563, .slice Ao12 t564.length co12, .slice Ao13 t567.length co13]] (by rfl) rfl rfl zG ?_
      with_reducible refine (impl_IsSafe.calls k t570 _ _ t571 _ _ t574 t563 _ _ t564 _ _ t567 t580 _ ?s1 ?s2 ?s3 ?s4 ?s5 ?s6 ?s7 ?s8 A18.o).mono ?_
      (case s1 => exact cU (rQ HO573.o).2.2)
      (case s2 => exact (rQ HO573.o).2.1)
      (case s3 => exact cU (rQ HO576.o).2.2)
      (case s4 => exact (rQ HO576.o).2.1)
      (case s5 => exact cU (rQ HO566.o).2.2)
      (case s6 => exact (rQ HO566.o).2.1)
      (case s7 => exact cU (rQ HO569.o).2.2)
      (case s8 => exact (rQ HO569.o).2.1)
      rintro e w58 ⟨rfl, hb⟩
      refine ⟨_, rfl, ?_⟩
      replace HO566 := aM (rW (zR HO566) hb)
      replace HO569 := aM (rW (zR HO569) hb)
      replace HO573 := aM (rW (zR HO573) hb)
      replace HO576 := aM (rW (zR HO576) hb)
      replace BK577 := kB BK577 hb
      replace BK578 := kB BK578 hb
      replace HB := bS HB hb
      (try clear hb); (try clear hb2); (try clear hk); (try clear hi)
      refine hK.out _ _ ⟨bc0 BK578, bc1 BK578, bc2 BK578, bc0 BK577, bc1 BK577, bc2 BK577⟩ (fun hK4 => ?_)
      clear hK K
      refine nU 24 ?_
      refine pW 4 25 33 31 HT_ rfl rfl ?_
      refine pW 5 26 33 63 HT_ rfl rfl ?_
      refine pW 6 27 33 127 HT_ rfl rfl ?_
      refine pW 7 28 33 255 HT_ rfl rfl ?_
      refine pV 8 (some 29) (bm 33 511) HT_ rfl rfl ?_
      refine pV 9 (some 30) (bm 33 1023) HT_ rfl rfl ?_
      refine pV 10 (some 31) (bm 33 2047) HT_ rfl rfl ?_
      refine pV 11 (some 32) (bm 33 4095) HT_ rfl rfl ?_
      refine pV 12 (some 33) (bm 33 8191) HT_ rfl rfl ?_
      refine pW 13 34 33 16383 HT_ rfl rfl ?_
      refine pW 14 35 33 32767 HT_ rfl rfl ?_
      refine pW 15 36 33 65535 HT_ rfl rfl ?_
      refine tW 16 37 33 131071 HT_ HW_ rfl rfl hK4 ?_
      refine tW 17 38 33 262143 HT_ HW_ rfl rfl hK4 ?_
      refine tW 20 41 33 1310719 HT_ HW_ rfl rfl hK4 ?_
      refine tW 21 42 33 3407871 HT_ HW_ rfl rfl hK4 ?_
      refine one_ (i := 18) (N := some 39) (bm 33 3670015) rfl rfl (one_of HT_.o (by kernel_rfl)) (by decide) (fun K hK => ?_)
      refine goes_ Try.func9 (by kernel_rfl) rfl #[.agg #[.int .i64 t563, .slice Ao12 t564.length co12, .slice Ao13 t567.length co13], .agg #[.int .i64 t570, .slice Ao15 t571.length co15, .slice Ao16 t574.length co16]] (by rfl) rfl rfl zG ?_
      with_reducible refine (impl_PairsOf.calls k t563 _ _ t564 _ _ t567 t570 _ _ t571 _ _ t574 t592 _ ?s1 ?s2 ?s3 ?s4 ?s5 ?s6 ?s7 ?s8 A52.o).mono ?_
      (case s1 => exact cU (rQ HO566.o).2.2)
      (case s2 => exact (rQ HO566.o).2.1)
      (case s3 => exact cU (rQ HO569.o).2.2)
      (case s4 => exact (rQ HO569.o).2.1)
      (case s5 => exact cU (rQ HO573.o).2.2)
      (case s6 => exact (rQ HO573.o).2.1)
      (case s7 => exact cU (rQ HO576.o).2.2)
      (case s8 => exact (rQ HO576.o).2.1)
      rintro e w59 ⟨v593, rfl, ho0, hb⟩
      refine ⟨_, rfl, ?_⟩
      replace HO566 := aM (rW (zR HO566) hb)
      replace HO569 := aM (rW (zR HO569) hb)
      replace HO573 := aM (rW (zR HO573) hb)
      replace HO576 := aM (rW (zR HO576) hb)
      have HO594 := aM (Kd.S_lower ho0 (bZ (zB HB)))
      replace BK577 := kB BK577 hb
      replace BK578 := kB BK578 hb
      replace HB := bS HB hb
      (try clear hb); (try clear hb2); (try clear hk); (try clear hi); (try clear ho0)
      obtain ⟨Ao60, co60, eo60⟩ := Kd.S_slice HO594.o
      (first | subst eo60 | (obtain ⟨f4_, f5_⟩ := slI eo60; subst f4_; subst f5_))
      refine hK.out _ _ ⟨bc0 BK578, bc1 BK578, bc2 BK578, bc0 BK577, bc1 BK577, bc2 BK577⟩ (fun hK4 => ?_)
      clear hK K
      refine nU 39 ?_
      refine pW 19 40 33 4194303 HT_ rfl rfl ?_
      refine one_ (i := 22) (N := some 43) (bm 33 8388607) rfl rfl (one_of HT_.o (by kernel_rfl)) (by decide) (fun K hK => ?_)
      refine goes_ Try.func9 (by kernel_rfl) rfl #[.agg #[.int .i64 t570, .slice Ao15 t571.length co15, .slice Ao16 t574.length co16], .agg #[.int .i64 t563, .slice Ao12 t564.length co12, .slice Ao13 t567.length co13]] (by rfl) rfl rfl zG ?_
      with_reducible refine (impl_PairsOf.calls k t570 _ _ t571 _ _ t574 t563 _ _ t564 _ _ t567 t595 _ ?s1 ?s2 ?s3 ?s4 ?s5 ?s6 ?s7 ?s8 A53.o).mono ?_
      (case s1 => exact cU (rQ HO573.o).2.2)
      (case s2 => exact (rQ HO573.o).2.1)
      (case s3 => exact cU (rQ HO576.o).2.2)
      (case s4 => exact (rQ HO576.o).2.1)
      (case s5 => exact cU (rQ HO566.o).2.2)
      (case s6 => exact (rQ HO566.o).2.1)
      (case s7 => exact cU (rQ HO569.o).2.2)
      (case s8 => exact (rQ HO569.o).2.1)
      rintro e w61 ⟨v596, rfl, ho0, hb⟩
      refine ⟨_, rfl, ?_⟩
      replace HO566 := aM (rW (zR HO566) hb)
      replace HO569 := aM (rW (zR HO569) hb)
      replace HO573 := aM (rW (zR HO573) hb)
      replace HO576 := aM (rW (zR HO576) hb)
      have HO597 := aM (Kd.S_lower (Kd.S_new' ho0 (Kd.S_lt (zS HO594))) (bZ (zB HB)))
      replace HO594 := aM (Kd.S_elder' (zS HO594) (Kd.S_base ho0) hb)
      replace BK577 := kB BK577 hb
      replace BK578 := kB BK578 hb
      replace HB := bS HB hb
      (try clear hb); (try clear hb2); (try clear hk); (try clear hi); (try clear ho0)
      obtain ⟨Ao62, co62, eo62⟩ := Kd.S_slice HO597.o
      (first | subst eo62 | (obtain ⟨f4_, f5_⟩ := slI eo62; subst f4_; subst f5_))
      refine hK.out _ _ ⟨bc0 BK578, bc1 BK578, bc2 BK578, bc0 BK577, bc1 BK577, bc2 BK577⟩ (fun hK4 => ?_)
      clear hK K
      refine nU 43 ?_
      refine pW 23 44 33 16777215 HT_ rfl rfl ?_
      refine pW 24 45 33 33554431 HT_ rfl rfl ?_
      refine pW 25 46 33 67108863 HT_ rfl rfl ?_
      refine pW 26 47 33 134217727 HT_ rfl rfl ?_
      refine tW 27 48 33 268435455 HT_ HW_ rfl rfl hK4 ?_
      refine tW 29 50 33 805306367 HT_ HW_ rfl rfl hK4 ?_
      refine one_ (i := 28) (N := some 49) (bm 33 1073741823) rfl rfl (one_of HT_.o (by kernel_rfl)) (by decide) (fun K hK => ?_)
      refine goes_ Try.func10 (by kernel_rfl) rfl #[.agg #[.int .i64 t563, .slice Ao12 t564.length co12, .slice Ao13 t567.length co13]] (by rfl) rfl rfl zG ?_
      with_reducible refine (impl_IsMachine.calls k t563 _ _ t564 _ _ t567 t598 _ ?s1 ?s2 ?s3 ?s4 A55.o).mono ?_
      (case s1 => exact cU (rQ HO566.o).2.2)
      (case s2 => exact (rQ HO566.o).2.1)
      (case s3 => exact cU (rQ HO569.o).2.2)
      (case s4 => exact (rQ HO569.o).2.1)
      rintro e w63 ⟨rfl, hb⟩
      refine ⟨_, rfl, ?_⟩
      replace HO566 := aM (rW (zR HO566) hb)
      replace HO569 := aM (rW (zR HO569) hb)
      replace HO573 := aM (rW (zR HO573) hb)
      replace HO576 := aM (rW (zR HO576) hb)
      replace HO594 := aM (Kd.S_below (zS HO594) hb)
      replace HO597 := aM (Kd.S_below (zS HO597) hb)
      replace BK577 := kB BK577 hb
      replace BK578 := kB BK578 hb
      replace HB := bS HB hb
      (try clear hb); (try clear hb2); (try clear hk); (try clear hi)
      refine hK.out _ _ ⟨bc0 BK578, bc1 BK578, bc2 BK578, bc0 BK577, bc1 BK577, bc2 BK577⟩ (fun hK4 => ?_)
      clear hK K
      refine nU 49 ?_
      refine one_ (i := 30) (N := some 51) (bm 33 2147483647) rfl rfl (one_of HT_.o (by kernel_rfl)) (by decide) (fun K hK => ?_)
      refine goes_ Try.func11 (by kernel_rfl) rfl #[.agg #[.int .i64 t563, .slice Ao12 t564.length co12, .slice Ao13 t567.length co13]] (by rfl) rfl rfl zG ?_
      with_reducible refine (spec_IsMachine.calls k t563 _ _ t564 _ _ t567 t599 _ ?s1 ?s2 ?s3 ?s4 A56.o).mono ?_
      (case s1 => exact cU (rQ HO566.o).2.2)
      (case s2 => exact (rQ HO566.o).2.1)
      (case s3 => exact cU (rQ HO569.o).2.2)
      (case s4 => exact (rQ HO569.o).2.1)
      rintro e w64 ⟨rfl, hb⟩
      refine ⟨_, rfl, ?_⟩
      replace HO566 := aM (rW (zR HO566) hb)
      replace HO569 := aM (rW (zR HO569) hb)
      replace HO573 := aM (rW (zR HO573) hb)
      replace HO576 := aM (rW (zR HO576) hb)
      replace HO594 := aM (Kd.S_below (zS HO594) hb)
      replace HO597 := aM (Kd.S_below (zS HO597) hb)
      replace BK577 := kB BK577 hb
      replace BK578 := kB BK578 hb
      replace HB := bS HB hb
      (try clear hb); (try clear hb2); (try clear hk); (try clear hi)
      refine hK.out _ _ ⟨bc0 BK578, bc1 BK578, bc2 BK578, bc0 BK577, bc1 BK577, bc2 BK577⟩ (fun hK4 => ?_)
      clear hK K
      refine nU 51 ?_
      refine pW 31 52 33 4294967295 HT_ rfl rfl ?_
      refine pW 32 53 33 8589934591 HT_ rfl rfl ?_
      refine done_ (done_of HT_.o (by kernel_rfl)) ?_
      try clear hK4
      try go_wp2
      go_meet
      case rel => exact ⟨_, ((t598 != t599)), zF, H', ⟨by first | omega | exact Nat.le_refl _⟩, ⟨zR HO566⟩, ⟨zR HO569⟩, ⟨zR HO573⟩, ⟨zR HO576⟩, ⟨zK BK577⟩, ⟨zK BK578⟩, ⟨zB HB⟩⟩
     ·rw [if_neg c54] at H
      have c54b0 : ((t592.length : Int) == (t595.length : Int)) = false := beq_eq_false_iff_ne.mpr c54
      have c54b1 : ((t592.length : Int) != (t595.length : Int)) = true := bne_iff_ne.mpr c54
      have c54b2 : (t592.length == t595.length) = false := by first | simpa using c54 | (simp at c54 ⊢; omega)
      have H' := aM H
      clear H
      try go_wp2
      replace HO566 := aM (rD HO566.o)
      replace HO569 := aM (rD HO569.o)
      replace HO573 := aM (rD HO573.o)
      replace HO576 := aM (rD HO576.o)
      replace BK577 := aM (bD BK577.o)
      replace BK578 := aM (bD BK578.o)
      replace HB := aM (below_drew1 HB.o)
      refine start_ (n := 33) (S := fun w' => w'.cell? ⟨gb578, 0, none⟩ = some (.int .i64 t570) ∧ w'.cell? ⟨gb578, 1, none⟩ = some (.slice Ao15 t571.length co15) ∧ w'.cell? ⟨gb578, 2, none⟩ = some (.slice Ao16 t574.length co16) ∧ w'.cell? ⟨gb577, 0, none⟩ = some (.int .i64 t563) ∧ w'.cell? ⟨gb577, 1, none⟩ = some (.slice Ao12 t564.length co12) ∧ w'.cell? ⟨gb577, 2, none⟩ = some (.slice Ao13 t567.length co13)) (ds := []) (bm 33 0) (by kernel_rfl) rfl (bm0 _) ⟨bc0 BK578, bc1 BK578, bc2 BK578, bc0 BK577, bc1 BK577, bc2 BK577⟩ (fun hK4 => ?_); refine with_tabW laws_FnPairs.tab5 laws_FnPairs.bits5 (fun HT_ HW_ => ?_)
      generalize w17.drew = w65 at HO566 HO569 HO573 HO576 BK577 BK578 HB hK4 ⊢
      refine pW 0 21 33 1 HT_ rfl rfl ?_
      refine tW 1 22 33 3 HT_ HW_ rfl rfl hK4 ?_
      refine tW 2 23 33 7 HT_ HW_ rfl rfl hK4 ?_
      refine one_ (i := 3) (N := some 24) (bm 33 15) rfl rfl (one_of HT_.o (by kernel_rfl)) (by decide) (fun K hK => ?_)
      refine goes_ Try.func7 (by kernel_rfl) rfl #[.agg #[.int .i64 t570, .slice Ao15 t571.length co15, .slice Ao16 t574.length co16], .agg #[.int .i64 t563, .slice Ao12 t564.length co12, .slice Ao13 t567.length co13]] (by rfl) rfl rfl zG ?_
      with_reducible refine (impl_IsSafe.calls k t570 _ _ t571 _ _ t574 t563 _ _ t564 _ _ t567 t580 _ ?s1 ?s2 ?s3 ?s4 ?s5 ?s6 ?s7 ?s8 A18.o).mono ?_
      (case s1 => exact cU (rQ HO573.o).2.2)
      (case s2 => exact (rQ HO573.o).2.1)
      (case s3 => exact cU (rQ HO576.o).2.2)
      (case s4 => exact (rQ HO576.o).2.1)
      (case s5 => exact cU (rQ HO566.o).2.2)
      (case s6 => exact (rQ HO566.o).2.1)
      (case s7 => exact cU (rQ HO569.o).2.2)
      (case s8 => exact (rQ HO569.o).2.1)
      rintro e w66 ⟨rfl, hb⟩
      refine ⟨_, rfl, ?_⟩
      replace HO566 := aM (rW (zR HO566) hb)
      replace HO569 := aM (rW (zR HO569) hb)
      replace HO573 := aM (rW (zR HO573) hb)
      replace HO576 := aM (rW (zR HO576) hb)
      replace BK577 := kB BK577 hb
      replace BK578 := kB BK578 hb
      replace HB := bS HB hb
      (try clear hb); (try clear hb2); (try clear hk); (try clear hi)
      refine hK.out _ _ ⟨bc0 BK578, bc1 BK578, bc2 BK578, bc0 BK577, bc1 BK577, bc2 BK577⟩ (fun hK4 => ?_)
      clear hK K
      refine nU 24 ?_
      refine pW 4 25 33 31 HT_ rfl rfl ?_
      refine pW 5 26 33 63 HT_ rfl rfl ?_
      refine pW 6 27 33 127 HT_ rfl rfl ?_
      refine pW 7 28 33 255 HT_ rfl rfl ?_
      refine pV 8 (some 29) (bm 33 511) HT_ rfl rfl ?_
      refine pV 9 (some 30) (bm 33 1023) HT_ rfl rfl ?_
      refine pV 10 (some 31) (bm 33 2047) HT_ rfl rfl ?_
      refine pV 11 (some 32) (bm 33 4095) HT_ rfl rfl ?_
      refine pV 12 (some 33) (bm 33 8191) HT_ rfl rfl ?_
      refine pW 13 34 33 16383 HT_ rfl rfl ?_
      refine pW 14 35 33 32767 HT_ rfl rfl ?_
      refine pW 15 36 33 65535 HT_ rfl rfl ?_
      refine tW 16 37 33 131071 HT_ HW_ rfl rfl hK4 ?_
      refine tW 17 38 33 262143 HT_ HW_ rfl rfl hK4 ?_
      refine tW 20 41 33 1310719 HT_ HW_ rfl rfl hK4 ?_
      refine tW 21 42 33 3407871 HT_ HW_ rfl rfl hK4 ?_
      refine one_ (i := 18) (N := some 39) (bm 33 3670015) rfl rfl (one_of HT_.o (by kernel_rfl)) (by decide) (fun K hK => ?_)
      refine goes_ Try.func9 (by kernel_rfl) rfl #[.agg #[.int .i64 t563, .slice Ao12 t564.length co12, .slice Ao13 t567.length co13], .agg #[.int .i64 t570, .slice Ao15 t571.length co15, .slice Ao16 t574.length co16]] (by rfl) rfl rfl zG ?_
      with_reducible refine (impl_PairsOf.calls k t563 _ _ t564 _ _ t567 t570 _ _ t571 _ _ t574 t592 _ ?s1 ?s2 ?s3 ?s4 ?s5 ?s6 ?s7 ?s8 A52.o).mono ?_
      (case s1 => exact cU (rQ HO566.o).2.2)
      (case s2 => exact (rQ HO566.o).2.1)
      (case s3 => exact cU (rQ HO569.o).2.2)
      (case s4 => exact (rQ HO569.o).2.1)
      (case s5 => exact cU (rQ HO573.o).2.2)
      (case s6 => exact (rQ HO573.o).2.1)
      (case s7 => exact cU (rQ HO576.o).2.2)
      (case s8 => exact (rQ HO576.o).2.1)
      rintro e w67 ⟨v593, rfl, ho0, hb⟩
      refine ⟨_, rfl, ?_⟩
      replace HO566 := aM (rW (zR HO566) hb)
      replace HO569 := aM (rW (zR HO569) hb)
      replace HO573 := aM (rW (zR HO573) hb)
      replace HO576 := aM (rW (zR HO576) hb)
      have HO594 := aM (Kd.S_lower ho0 (bZ (zB HB)))
      replace BK577 := kB BK577 hb
      replace BK578 := kB BK578 hb
      replace HB := bS HB hb
      (try clear hb); (try clear hb2); (try clear hk); (try clear hi); (try clear ho0)
      obtain ⟨Ao68, co68, eo68⟩ := Kd.S_slice HO594.o
      (first | subst eo68 | (obtain ⟨f4_, f5_⟩ := slI eo68; subst f4_; subst f5_))
      refine hK.out _ _ ⟨bc0 BK578, bc1 BK578, bc2 BK578, bc0 BK577, bc1 BK577, bc2 BK577⟩ (fun hK4 => ?_)
      clear hK K
      refine nU 39 ?_
      refine pW 19 40 33 4194303 HT_ rfl rfl ?_
      refine one_ (i := 22) (N := some 43) (bm 33 8388607) rfl rfl (one_of HT_.o (by kernel_rfl)) (by decide) (fun K hK => ?_)
      refine goes_ Try.func9 (by kernel_rfl) rfl #[.agg #[.int .i64 t570, .slice Ao15 t571.length co15, .slice Ao16 t574.length co16], .agg #[.int .i64 t563, .slice Ao12 t564.length co12, .slice Ao13 t567.length co13]] (by rfl) rfl rfl zG ?_
      with_reducible refine (impl_PairsOf.calls k t570 _ _ t571 _ _ t574 t563 _ _ t564 _ _ t567 t595 _ ?s1 ?s2 ?s3 ?s4 ?s5 ?s6 ?s7 ?s8 A53.o).mono ?_
      (case s1 => exact cU (rQ HO573.o).2.2)
      (case s2 => exact (rQ HO573.o).2.1)
      (case s3 => exact cU (rQ HO576.o).2.2)
      (case s4 => exact (rQ HO576.o).2.1)
      (case s5 => exact cU (rQ HO566.o).2.2)
      (case s6 => exact (rQ HO566.o).2.1)
      (case s7 => exact cU (rQ HO569.o).2.2)
      (case s8 => exact (rQ HO569.o).2.1)
      rintro e w69 ⟨v596, rfl, ho0, hb⟩
      refine ⟨_, rfl, ?_⟩
      replace HO566 := aM (rW (zR HO566) hb)
      replace HO569 := aM (rW (zR HO569) hb)
      replace HO573 := aM (rW (zR HO573) hb)
      replace HO576 := aM (rW (zR HO576) hb)
      have HO597 := aM (Kd.S_lower (Kd.S_new' ho0 (Kd.S_lt (zS HO594))) (bZ (zB HB)))
      replace HO594 := aM (Kd.S_elder' (zS HO594) (Kd.S_base ho0) hb)
      replace BK577 := kB BK577 hb
      replace BK578 := kB BK578 hb
      replace HB := bS HB hb
      (try clear hb); (try clear hb2); (try clear hk); (try clear hi); (try clear ho0)
      obtain ⟨Ao70, co70, eo70⟩ := Kd.S_slice HO597.o
      (first | subst eo70 | (obtain ⟨f4_, f5_⟩ := slI eo70; subst f4_; subst f5_))
      refine hK.out _ _ ⟨bc0 BK578, bc1 BK578, bc2 BK578, bc0 BK577, bc1 BK577, bc2 BK577⟩ (fun hK4 => ?_)
      clear hK K
      refine nU 43 ?_
      refine pW 23 44 33 16777215 HT_ rfl rfl ?_
      refine pW 24 45 33 33554431 HT_ rfl rfl ?_
      refine pW 25 46 33 67108863 HT_ rfl rfl ?_
      refine pW 26 47 33 134217727 HT_ rfl rfl ?_
      refine pV 27 (some 48) (bm 33 268435455) HT_ rfl rfl ?_
      refine pV 28 (some 49) (bm 33 536870911) HT_ rfl rfl ?_
      refine pV 29 (some 50) (bm 33 1073741823) HT_ rfl rfl ?_
      refine pV 30 (some 51) (bm 33 2147483647) HT_ rfl rfl ?_
      refine pV 31 (some 52) (bm 33 4294967295) HT_ rfl rfl ?_
      refine pW 32 53 33 8589934591 HT_ rfl rfl ?_
      refine done_ (done_of HT_.o (by kernel_rfl)) ?_
      try clear hK4
      try go_wp2
      go_meet
      case rel => exact ⟨_, (true), zF, H', ⟨by first | omega | exact Nat.le_refl _⟩, ⟨zR HO566⟩, ⟨zR HO569⟩, ⟨zR HO573⟩, ⟨zR HO576⟩, ⟨zK BK577⟩, ⟨zK BK578⟩, ⟨zB HB⟩⟩
  case rest =>
   clear HC6
   try clear c1
   try clear p2
   try clear c5
   try clear c7
   try clear c9
   try clear c10
   try clear c11
   try clear c54
   try clear c54b0
   try clear c54b1
   try clear c54b2
   obtain ⟨kq, x53_5, rfl, HA, HJ5, HO_578001, HO_578002, HO_579001, HO_579002, BK577, BK578, HB⟩ := hcut
   cases kq with
   | zero => exact absurd HA.o (by simp [laws_FnPairs.j0])
   | succ kj5 =>
    have H := HA.o
    clear HA
    simp only [laws_FnPairs.j0] at H
    by_cases c71 : x53_5 = true
    ·subst c71
     have H1 : (some false) = some r := by rw [if_pos rfl] at H; exact H
     clear H
     have H := H1
     clear H1
     exact absurd H (by simp [ht_])
    ·replace c71 := Bool.eq_false_iff.mpr c71
     subst c71
     have H1 : ((impl_DualOf.f kj5 t563 t564 t567).bind fun bt600 => ((impl_PairsOf.f kj5 t563 t564 t567 bt600.1 bt600.2.1 bt600.2.2).bind fun t608 => (laws_FnPairs.l0 kj5 t579 t608 0 t563 t564 t567 t570 t571 t574 bt600.1 bt600.2.1 bt600.2.2))) = some r := by rw [if_neg (show ¬ (false = true) by decide)] at H; exact H
     clear H
     have H := H1
     clear H1
     replace H := oB.mp H
     obtain ⟨⟨t600, t601, t604⟩, A720, H⟩ := H
     dsimp only at H
     have A72 := aM A720
     clear A720
     obtain ⟨t608, A73, H⟩ := bindS H
     have H' := aM H
     clear H
     have hnb74 := NB577_578.o
     have hnc74 := NB578_577.o
     obtain ⟨z75_0, z75_1, z75_2, f75_0, f75_1, f75_2⟩ := bq3 BK577
     go_wp2_with (first | ((with_reducible refine gC (f := 12) rfl ?_); refine goesL_ (some 55) rfl rfl Try.func12 (by kernel_rfl) rfl #[.agg #[.int .i64 t563, .slice Ao12 t564.length co12, .slice Ao13 t567.length co13]] rfl zG ?_; (with_reducible refine (impl_DualOf.calls kj5 t563 _ _ t564 _ _ t567 t600 t601 t604 _ ?s1 ?s2 ?s3 ?s4 A72.o).mono ?_); (case s1 => exact cU (rQ HO_578001.o).2.2); (case s2 => exact (rQ HO_578001.o).2.1); (case s3 => exact cU (rQ HO_578002.o).2.2); (case s4 => exact (rQ HO_578002.o).2.1); rintro e w76 ⟨v602, v605, rfl, ho0, ho1, hb⟩; refine ⟨_, rfl, ?_⟩; have HO603 := aM (rO (Kd.R_new' (Kd.R_new' ho0 (Kd.R_lt (zR HO_578001))) (Kd.R_lt (zR HO_579001))) (bZ (zB HB))); replace HO_578001 := aM (Kd.R_elder' (zR HO_578001) (Kd.R_base ho0) hb); replace HO_579001 := aM (Kd.R_elder' (zR HO_579001) (Kd.R_base ho0) hb); have HO606 := aM (rO (Kd.R_new' (Kd.R_new' ho1 (Kd.R_lt (zR HO_578002))) (Kd.R_lt (zR HO_579002))) (bZ (zB HB))); replace HO_578002 := aM (Kd.R_elder' (zR HO_578002) (Kd.R_base ho1) hb); replace HO_579002 := aM (Kd.R_elder' (zR HO_579002) (Kd.R_base ho1) hb); replace BK577 := kB BK577 hb; replace BK578 := kB BK578 hb; replace HB := bS HB hb; (try clear hb); (try clear ho0); (try clear ho1)) | ((with_reducible refine gD (N := 6) rfl ?_); (try (refine gate_guard (by rfl) ?_; dsimp only)); refine box_event ?hg (N := 6) ?hd (cs := #[.int .i64 0, .slice none 0 0, .slice none 0 0]) (t := 27) ?hr ?_; (case hd => rfl); (case hg => rfl); (case hr => first | (go_simp; done) | (go_simp; rfl)); intro gb607 hg w77 hbox hb; replace HO_578001 := aM (rW (zR HO_578001) hb); replace HO_578002 := aM (rW (zR HO_578002) hb); replace HO_579001 := aM (rW (zR HO_579001) hb); replace HO_579002 := aM (rW (zR HO_579002) hb); replace HO603 := aM (rW (zR HO603) hb); replace HO606 := aM (rW (zR HO606) hb); have BK607 := aM (hbox); have GW607 := gS HB hg; have GE607 := gS HB hg; replace HB := bS HB hb; have NB577_607 := nL BK577 hg; have NB607_577 := nR BK577 hg; replace BK577 := kB BK577 hb; have NB578_607 := nL BK578 hg; have NB607_578 := nR BK578 hg; replace BK578 := kB BK578 hb; clear hb hbox hg; have hnb78 := NB607_577.o; have hnc78 := NB577_607.o; have hnb79 := NB607_578.o; have hnc79 := NB578_607.o; obtain ⟨z80_0, z80_1, z80_2, f80_0, f80_1, f80_2⟩ := bq3 BK607; obtain ⟨Ao81, co81, eo81⟩ := rL HO603.o; subst eo81; obtain ⟨Ao82, co82, eo82⟩ := rL HO606.o; subst eo82; obtain ⟨z83_0, z83_1, z83_2, f83_0, f83_1, f83_2⟩ := bq3 BK577) | ((with_reducible refine gC (f := 9) rfl ?_); refine goesL_ (some 58) rfl rfl Try.func9 (by kernel_rfl) rfl #[.agg #[.int .i64 t563, .slice Ao12 t564.length co12, .slice Ao13 t567.length co13], .agg #[.int .i64 t600, .slice Ao81 t601.length co81, .slice Ao82 t604.length co82]] rfl zG ?_; (with_reducible refine (impl_PairsOf.calls kj5 t563 _ _ t564 _ _ t567 t600 _ _ t601 _ _ t604 t608 _ ?s1 ?s2 ?s3 ?s4 ?s5 ?s6 ?s7 ?s8 A73.o).mono ?_); (case s1 => refine (rQ (e := 4) (base := w.heap.size) (ok := fun k_ => (some k_ ≠ (.slice Ao15 t571.length co15 : Value).ownBlock ∧ some k_ ≠ (.slice Ao81 t601.length co81 : Value).ownBlock)) (n := t564.length) (c := co12) ?_).2.2; exact ((rM (rB HO_578001 BK607) (fun _ h_ => h_.1)))); (case s2 => exact (rQ HO_578001.o).2.1); (case s3 => refine (rQ (e := 46) (base := w.heap.size) (ok := fun k_ => (some k_ ≠ (.slice Ao16 t574.length co16 : Value).ownBlock ∧ some k_ ≠ (.slice Ao82 t604.length co82 : Value).ownBlock)) (n := t567.length) (c := co13) ?_).2.2; exact ((rM (rB HO_578002 BK607) (fun _ h_ => h_.1)))); (case s4 => exact (rQ HO_578002.o).2.1); (case s5 => refine (rQ (e := 4) (base := w.heap.size) (ok := fun k_ => ((True ∧ some k_ ≠ (.slice Ao12 t564.length co12 : Value).ownBlock) ∧ some k_ ≠ (.slice Ao15 t571.length co15 : Value).ownBlock)) (n := t601.length) (c := co81) ?_).2.2; exact ((rM (rB HO603 BK607) (fun _ h_ => h_.1)))); (case s6 => exact (rQ HO603.o).2.1); (case s7 => refine (rQ (e := 46) (base := w.heap.size) (ok := fun k_ => ((True ∧ some k_ ≠ (.slice Ao13 t567.length co13 : Value).ownBlock) ∧ some k_ ≠ (.slice Ao16 t574.length co16 : Value).ownBlock)) (n := t604.length) (c := co82) ?_).2.2; exact ((rM (rB HO606 BK607) (fun _ h_ => h_.1)))); (case s8 => exact (rQ HO606.o).2.1); rintro e w84 ⟨v609, rfl, ho0, hb⟩; refine ⟨_, rfl, ?_⟩; replace HO_578001 := aM (rW ((rM (rB HO_578001 BK607) (fun _ h_ => h_.1))) hb); replace HO_578002 := aM (rW ((rM (rB HO_578002 BK607) (fun _ h_ => h_.1))) hb); replace HO_579001 := aM (rW ((rM (rB HO_579001 BK607) (fun _ h_ => h_.1))) hb); replace HO_579002 := aM (rW ((rM (rB HO_579002 BK607) (fun _ h_ => h_.1))) hb); replace HO603 := aM (rW ((rM (rB HO603 BK607) (fun _ h_ => h_.1))) hb); replace HO606 := aM (rW ((rM (rB HO606 BK607) (fun _ h_ => h_.1))) hb); have HO610 := aM (Kd.S_lower ho0 (bZ (zB HB))); replace BK577 := aM (blk_below (kF BK577) hb); replace BK578 := aM (blk_below (kF BK578) hb); replace BK607 := aM (blk_below (g := gb607) (o := .cells #[.int .i64 t600, .slice Ao81 t601.length co81, .slice Ao82 t604.length co82] 27 (0, 0)) (by (with_reducible repeat (first | apply bN | apply bD | apply bA)); refine bP (cs := #[.int .i64 t600, .slice Ao81 t601.length co81, .slice none 0 0]) ?_ 2 _ rfl; (with_reducible repeat (first | apply bN | apply bD | apply bA)); refine bP (cs := #[.int .i64 t600, .slice none 0 0, .slice none 0 0]) ?_ 1 _ rfl; (with_reducible repeat (first | apply bN | apply bD | apply bA)); refine bP (cs := #[.int .i64 0, .slice none 0 0, .slice none 0 0]) ?_ 0 _ rfl; (with_reducible repeat (first | apply bN | apply bD | apply bA)); exact BK607.o) hb); replace HB := bS HB hb; (try clear hb); (try clear ho0)))
     go_loopg [8] kj5 (fun kq v8 w' => ∃ (x8_2 : Int), v8 = .int .i64 x8_2 ∧ Aside0 (laws_FnPairs.l0 kq t579 t608 x8_2 t563 t564 t567 t570 t571 t574 t600 t601 t604 = some r) ∧ Aside0 (kq ≤ kj5) ∧ Aside0 (Kd.S (Kd.slice 3 (Kd.int .i64)) 31 w' w.heap.size (fun _ => True) v609 t608) ∧ Aside0 (Kd.R Kd.bool 4 w' w.heap.size (fun k_ => some k_ ≠ ((.slice Ao15 t571.length co15) : Value).ownBlock ∧ some k_ ≠ ((.slice Ao81 t601.length co81) : Value).ownBlock) (.slice Ao12 t564.length co12) t564) ∧ Aside0 (Kd.R k46 46 w' w.heap.size (fun k_ => some k_ ≠ ((.slice Ao16 t574.length co16) : Value).ownBlock ∧ some k_ ≠ ((.slice Ao82 t604.length co82) : Value).ownBlock) (.slice Ao13 t567.length co13) t567) ∧ Aside0 (Kd.R Kd.bool 4 w' w.heap.size (fun k_ => some k_ ≠ ((.slice Ao12 t564.length co12) : Value).ownBlock ∧ some k_ ≠ ((.slice Ao81 t601.length co81) : Value).ownBlock) (.slice Ao15 t571.length co15) t571) ∧ Aside0 (Kd.R k46 46 w' w.heap.size (fun k_ => some k_ ≠ ((.slice Ao13 t567.length co13) : Value).ownBlock ∧ some k_ ≠ ((.slice Ao82 t604.length co82) : Value).ownBlock) (.slice Ao16 t574.length co16) t574) ∧ Aside0 (Kd.R Kd.bool 4 w' w.heap.size (fun k_ => some k_ ≠ ((.slice Ao12 t564.length co12) : Value).ownBlock ∧ some k_ ≠ ((.slice Ao15 t571.length co15) : Value).ownBlock) (.slice Ao81 t601.length co81) t601) ∧ Aside0 (Kd.R k46 46 w' w.heap.size (fun k_ => some k_ ≠ ((.slice Ao13 t567.length co13) : Value).ownBlock ∧ some k_ ≠ ((.slice Ao16 t574.length co16) : Value).ownBlock) (.slice Ao82 t604.length co82) t604) ∧ Aside0 (w'.heap[gb577]? = some (.cells #[.int .i64 t563, (.slice Ao12 t564.length co12), (.slice Ao13 t567.length co13)] 27 (0, 0))) ∧ Aside0 (w'.heap[gb578]? = some (.cells #[.int .i64 t570, (.slice Ao15 t571.length co15), (.slice Ao16 t574.length co16)] 27 (0, 0))) ∧ Aside0 (w'.heap[gb607]? = some (.cells #[.int .i64 t600, (.slice Ao81 t601.length co81), (.slice Ao82 t604.length co82)] 27 (0, 0))) ∧ Aside0 (Below w.heap.size w w'))
     case atStart => exact ⟨(0), zF, H', ⟨Nat.le_refl _⟩, ⟨zS HO610⟩, ⟨zR HO_578001⟩, ⟨zR HO_578002⟩, ⟨zR HO_579001⟩, ⟨zR HO_579002⟩, ⟨by (with_reducible repeat (first | apply rA | apply rN | apply rD)); exact rM HO603.o (fun _ hk => ⟨hk.1.2, hk.2⟩)⟩, ⟨by (with_reducible repeat (first | apply rA | apply rN | apply rD)); exact rM HO606.o (fun _ hk => ⟨hk.1.2, hk.2⟩)⟩, ⟨zK BK577⟩, ⟨zK BK578⟩, ⟨zK BK607⟩, ⟨zB HB⟩⟩
     case round =>
      clear H'
      try clear c1
      try clear p2
      try clear c5
      try clear c7
      try clear c9
      try clear c10
      try clear c11
      try clear c12
      try clear c54
      try clear c54b0
      try clear c54b1
      try clear c54b2
      try clear c71
      try clear c74
      try clear c78
      try clear c79
      try clear z75_0
      try clear z75_1
      try clear z75_2
      try clear z80_0
      try clear z80_1
      try clear z80_2
      try clear z83_0
      try clear z83_1
      try clear z83_2
      try clear f75_0
      try clear f75_1
      try clear f75_2
      try clear f80_0
      try clear f80_1
      try clear f80_2
      try clear f83_0
      try clear f83_1
      try clear f83_2
      try clear p2
      obtain ⟨x8_2, rfl, HA, HK2, HO_7, HO_578001, HO_578002, HO_579001, HO_579002, HO_608001, HO_608002, BK577, BK578, BK607, HB⟩ := hrel
      cases gk with
      | zero => exact absurd HA.o (by simp [laws_FnPairs.l0])
      | succ k2 =>
       have H := HA.o
       clear HA
       simp only [laws_FnPairs.l0] at H
       by_cases c85 : x8_2 < (t608.length : Int)
       ·rw [if_pos c85] at H
        have c85b0 : decide (x8_2 < (t608.length : Int)) = true := dT c85
        clear c85
        have HC86 := aM H
        clear H
        obtain ⟨Ao87, co87, eo87⟩ := Kd.S_slice HO_7.o
        subst eo87
        go_upto_region 12 with (fail)
        go_cut [95] (fun v95 wc => ∃ (kq : Nat) (x95_85 : Bool), v95 = .bool x95_85 ∧ Aside0 (laws_FnPairs.j2 kq t579 t608 x8_2 x95_85 t563 t564 t567 t570 t571 t574 t600 t601 t604 = some r) ∧ Aside0 (kq ≤ k2) ∧ Aside0 (Kd.S (Kd.slice 3 (Kd.int .i64)) 31 wc w.heap.size (fun _ => True) (.slice Ao87 t608.length co87) t608) ∧ Aside0 (Kd.R Kd.bool 4 wc w.heap.size (fun k_ => some k_ ≠ ((.slice Ao15 t571.length co15) : Value).ownBlock ∧ some k_ ≠ ((.slice Ao81 t601.length co81) : Value).ownBlock) (.slice Ao12 t564.length co12) t564) ∧ Aside0 (Kd.R k46 46 wc w.heap.size (fun k_ => some k_ ≠ ((.slice Ao16 t574.length co16) : Value).ownBlock ∧ some k_ ≠ ((.slice Ao82 t604.length co82) : Value).ownBlock) (.slice Ao13 t567.length co13) t567) ∧ Aside0 (Kd.R Kd.bool 4 wc w.heap.size (fun k_ => some k_ ≠ ((.slice Ao12 t564.length co12) : Value).ownBlock ∧ some k_ ≠ ((.slice Ao81 t601.length co81) : Value).ownBlock) (.slice Ao15 t571.length co15) t571) ∧ Aside0 (Kd.R k46 46 wc w.heap.size (fun k_ => some k_ ≠ ((.slice Ao13 t567.length co13) : Value).ownBlock ∧ some k_ ≠ ((.slice Ao82 t604.length co82) : Value).ownBlock) (.slice Ao16 t574.length co16) t574) ∧ Aside0 (Kd.R Kd.bool 4 wc w.heap.size (fun k_ => some k_ ≠ ((.slice Ao12 t564.length co12) : Value).ownBlock ∧ some k_ ≠ ((.slice Ao15 t571.length co15) : Value).ownBlock) (.slice Ao81 t601.length co81) t601) ∧ Aside0 (Kd.R k46 46 wc w.heap.size (fun k_ => some k_ ≠ ((.slice Ao13 t567.length co13) : Value).ownBlock ∧ some k_ ≠ ((.slice Ao16 t574.length co16) : Value).ownBlock) (.slice Ao82 t604.length co82) t604) ∧ Aside0 (wc.heap[gb577]? = some (.cells #[.int .i64 t563, (.slice Ao12 t564.length co12), (.slice Ao13 t567.length co13)] 27 (0, 0))) ∧ Aside0 (wc.heap[gb578]? = some (.cells #[.int .i64 t570, (.slice Ao15 t571.length co15), (.slice Ao16 t574.length co16)] 27 (0, 0))) ∧ Aside0 (wc.heap[gb607]? = some (.cells #[.int .i64 t600, (.slice Ao81 t601.length co81), (.slice Ao82 t604.length co82)] 27 (0, 0))) ∧ Aside0 (Below w.heap.size w wc))
        case first =>
         have H := HC86.o
         clear HC86
         obtain ⟨c88, H⟩ := ifS H
         have c88b0 : decide (0 ≤ x8_2) = true := dT c88
         clear c88
         (first | rw [c88b0] | (simp only [i64_w, i32_w]; rw [c88b0]) | skip)
         obtain ⟨c89, H⟩ := ifS H
         have c89b0 : decide (0 < ((rd_L4 t608 x8_2).length : Int)) = true := dT c89
         have c89b1 : decide (0 < (rd_L4 t608 x8_2).length) = true := dT (by omega)
         clear c89
         obtain ⟨c90, H⟩ := ifS H
         have c90b0 : decide (1 < ((rd_L4 t608 x8_2).length : Int)) = true := dT c90
         have c90b1 : decide (1 < (rd_L4 t608 x8_2).length) = true := dT (by omega)
         clear c90
         by_cases c91 : (rd (rd_L4 t608 x8_2) 0) = (rd (rd_L4 t608 x8_2) 1)
         ·rw [if_pos c91] at H
          have c91b0 : ((rd (rd_L4 t608 x8_2) 0) == (rd (rd_L4 t608 x8_2) 1)) = true := beq_iff_eq.mpr c91
          have c91b1 : ((rd (rd_L4 t608 x8_2) 0) != (rd (rd_L4 t608 x8_2) 1)) = false := bne_eq_false_iff_eq.mpr c91
          clear c91
          obtain ⟨t624, A92, H⟩ := bindS H
          have H' := aM H
          clear H
          try go_wp2
          replace HO_7 := aM (Kd.S_drew HO_7.o)
          replace HO_578001 := aM (rD HO_578001.o)
          replace HO_578002 := aM (rD HO_578002.o)
          replace HO_579001 := aM (rD HO_579001.o)
          replace HO_579002 := aM (rD HO_579002.o)
          replace HO_608001 := aM (rD HO_608001.o)
          replace HO_608002 := aM (rD HO_608002.o)
          replace BK577 := aM (bD BK577.o)
          replace BK578 := aM (bD BK578.o)
          replace BK607 := aM (bD BK607.o)
          replace HB := aM (below_drew1 HB.o)
          have p616 : 0 ≤ (x8_2 : Int) := zD
          have q616 : x8_2 < (t608.length : Int) := zD
          obtain ⟨ad616, A616_0, c616_0, e616, hx616_0, hl616_0, hi616_0⟩ := at_L4 (Kd.S_reads' HO_7.o).2.2 x8_2 p616 q616
          cases e616
          obtain ⟨ce616, hce616, hMe616, hcc616⟩ := Kd.S_get HO_7.o [] x8_2 p616 (by first | exact q616 | exact zD | (have e_ := (Kd.S_reads' HO_7.o).1; omega))
          obtain ⟨ve616_0, rfl, ge616_0⟩ := hMe616
          have hv616_0 := hcc616 0 _ rfl
          rw [Nat.add_zero, show ((Kd.slice 3 (Kd.int .i64))).sz = 1 from rfl, Nat.mul_one] at hv616_0
          replace hv616_0 := oI (hv616_0.symm.trans hx616_0)
          rw [hv616_0] at ge616_0
          have HL616_0 := aM (show Kd.R (Kd.int .i64) 3 _ _ _ _ (rd_L4 t608 x8_2) from ge616_0)
          clear hv616_0 ge616_0
          clear hcc616 hce616
          have HR616_0 := aM hi616_0
          have HC616_0 := aM hl616_0
          clear hi616_0 hl616_0
          replace p616 := eq_true p616
          replace q616 := eq_true q616
          have p617 : 0 ≤ (0 : Int) := (by omega)
          have q617 : 0 < ((rd_L4 t608 x8_2).length : Int) := zD
          obtain ⟨ad617, e617, hx617_0⟩ := Kd.at_int (by repeat (first | (with_reducible exact HR616_0.o) | (with_reducible refine qA ?_ _) | (with_reducible refine qN ?_ _) | (with_reducible refine qD ?_) | exact HR616_0.o)) 0 p617 q617
          cases e617
          have qi617 : (0 < (rd_L4 t608 x8_2).length) = True := eq_true (by omega)
          (try rw [show ((0 : Int)).toNat = 0 from rfl] at hx617_0)
          (try rw [Addr.add_zero'] at hx617_0)
          replace p617 := eq_true p617
          replace q617 := eq_true q617
          have p618 : 0 ≤ (x8_2 : Int) := zD
          have q618 : x8_2 < (t608.length : Int) := zD
          obtain ⟨ad618, A618_0, c618_0, e618, hx618_0, hl618_0, hi618_0⟩ := at_L4 (Kd.S_reads' HO_7.o).2.2 x8_2 p618 q618
          obtain rfl : ad616 = ad618 := (by injection e618)
          obtain ⟨ce618, hce618, hMe618, hcc618⟩ := Kd.S_get HO_7.o [] x8_2 p618 (by first | exact q618 | exact zD | (have e_ := (Kd.S_reads' HO_7.o).1; omega))
          obtain ⟨ve618_0, rfl, ge618_0⟩ := hMe618
          have hv618_0 := hcc618 0 _ rfl
          rw [Nat.add_zero, show ((Kd.slice 3 (Kd.int .i64))).sz = 1 from rfl, Nat.mul_one] at hv618_0
          replace hv618_0 := oI (hv618_0.symm.trans hx618_0)
          rw [hv618_0] at ge618_0
          have HL618_0 := aM (show Kd.R (Kd.int .i64) 3 _ _ _ _ (rd_L4 t608 x8_2) from ge618_0)
          clear hv618_0 ge618_0
          clear hcc618 hce618
          have HR618_0 := aM hi618_0
          have HC618_0 := aM hl618_0
          clear hi618_0 hl618_0
          replace p618 := eq_true p618
          replace q618 := eq_true q618
          have ea_ := oI (hx616_0.symm.trans hx618_0)
          injection ea_ with ea_ en_ ec_
          subst ea_
          subst ec_
          clear en_
          have p619 : 0 ≤ (1 : Int) := (by omega)
          have q619 : 1 < ((rd_L4 t608 x8_2).length : Int) := zD
          obtain ⟨ad619, e619, hx619_0⟩ := Kd.at_int (by repeat (first | (with_reducible exact HR618_0.o) | (with_reducible refine qA ?_ _) | (with_reducible refine qN ?_ _) | (with_reducible refine qD ?_) | exact HR618_0.o)) 1 p619 q619
          cases e619
          (try simp only [show (1 : Int).toNat = 1 from rfl, Nat.reduceMul, Nat.reduceEqDiff, Go.Addr.add, ↓reduceIte] at hx619_0)
          have qi619 : (1 < (rd_L4 t608 x8_2).length) = True := eq_true (by omega)
          (try rw [show ((1 : Int)).toNat = 1 from rfl] at hx619_0)
          replace p619 := eq_true p619
          replace q619 := eq_true q619
          have p620 : 0 ≤ (x8_2 : Int) := zD
          have q620 : x8_2 < (t608.length : Int) := zD
          obtain ⟨ad620, A620_0, c620_0, e620, hx620_0, hl620_0, hi620_0⟩ := at_L4 (Kd.S_reads' HO_7.o).2.2 x8_2 p620 q620
          obtain rfl : ad616 = ad620 := (by injection e620)
          obtain ⟨ce620, hce620, hMe620, hcc620⟩ := Kd.S_get HO_7.o [] x8_2 p620 (by first | exact q620 | exact zD | (have e_ := (Kd.S_reads' HO_7.o).1; omega))
          obtain ⟨ve620_0, rfl, ge620_0⟩ := hMe620
          have hv620_0 := hcc620 0 _ rfl
          rw [Nat.add_zero, show ((Kd.slice 3 (Kd.int .i64))).sz = 1 from rfl, Nat.mul_one] at hv620_0
          replace hv620_0 := oI (hv620_0.symm.trans hx620_0)
          rw [hv620_0] at ge620_0
          have HL620_0 := aM (show Kd.R (Kd.int .i64) 3 _ _ _ _ (rd_L4 t608 x8_2) from ge620_0)
          clear hv620_0 ge620_0
          clear hcc620 hce620
          have HR620_0 := aM hi620_0
          have HC620_0 := aM hl620_0
          clear hi620_0 hl620_0
          replace p620 := eq_true p620
          replace q620 := eq_true q620
          have ea_ := oI (hx616_0.symm.trans hx620_0)
          injection ea_ with ea_ en_ ec_
          subst ea_
          subst ec_
          clear en_
          have p621 : 0 ≤ (0 : Int) := (by omega)
          have q621 : 0 < ((rd_L4 t608 x8_2).length : Int) := zD
          obtain ⟨ad621, e621, hx621_0⟩ := Kd.at_int (by repeat (first | (with_reducible exact HR620_0.o) | (with_reducible refine qA ?_ _) | (with_reducible refine qN ?_ _) | (with_reducible refine qD ?_) | exact HR620_0.o)) 0 p621 q621
          cases e621
          have qi621 : (0 < (rd_L4 t608 x8_2).length) = True := eq_true (by omega)
          (try rw [show ((0 : Int)).toNat = 0 from rfl] at hx621_0)
          (try rw [Addr.add_zero'] at hx621_0)
          replace p621 := eq_true p621
          replace q621 := eq_true q621
          have p622 : 0 ≤ (x8_2 : Int) := zD
          have q622 : x8_2 < (t608.length : Int) := zD
          obtain ⟨ad622, A622_0, c622_0, e622, hx622_0, hl622_0, hi622_0⟩ := at_L4 (Kd.S_reads' HO_7.o).2.2 x8_2 p622 q622
          obtain rfl : ad616 = ad622 := (by injection e622)
          obtain ⟨ce622, hce622, hMe622, hcc622⟩ := Kd.S_get HO_7.o [] x8_2 p622 (by first | exact q622 | exact zD | (have e_ := (Kd.S_reads' HO_7.o).1; omega))
          obtain ⟨ve622_0, rfl, ge622_0⟩ := hMe622
          have hv622_0 := hcc622 0 _ rfl
          rw [Nat.add_zero, show ((Kd.slice 3 (Kd.int .i64))).sz = 1 from rfl, Nat.mul_one] at hv622_0
          replace hv622_0 := oI (hv622_0.symm.trans hx622_0)
          rw [hv622_0] at ge622_0
          have HL622_0 := aM (show Kd.R (Kd.int .i64) 3 _ _ _ _ (rd_L4 t608 x8_2) from ge622_0)
          clear hv622_0 ge622_0
          clear hcc622 hce622
          have HR622_0 := aM hi622_0
          have HC622_0 := aM hl622_0
          clear hi622_0 hl622_0
          replace p622 := eq_true p622
          replace q622 := eq_true q622
          have ea_ := oI (hx616_0.symm.trans hx622_0)
          injection ea_ with ea_ en_ ec_
          subst ea_
          subst ec_
          clear en_
          have p623 : 0 ≤ (1 : Int) := (by omega)
          have q623 : 1 < ((rd_L4 t608 x8_2).length : Int) := zD
          obtain ⟨ad623, e623, hx623_0⟩ := Kd.at_int (by repeat (first | (with_reducible exact HR622_0.o) | (with_reducible refine qA ?_ _) | (with_reducible refine qN ?_ _) | (with_reducible refine qD ?_) | exact HR622_0.o)) 1 p623 q623
          cases e623
          (try simp only [show (1 : Int).toNat = 1 from rfl, Nat.reduceMul, Nat.reduceEqDiff, Go.Addr.add, ↓reduceIte] at hx623_0)
          have qi623 : (1 < (rd_L4 t608 x8_2).length) = True := eq_true (by omega)
          (try rw [show ((1 : Int)).toNat = 1 from rfl] at hx623_0)
          replace p623 := eq_true p623
          replace q623 := eq_true q623
          refine start_ (n := 31) (S := fun w' => w'.cell? ⟨gb577, 0, none⟩ = some (.int .i64 t563) ∧ w'.cell? ⟨gb577, 1, none⟩ = some (.slice Ao12 t564.length co12) ∧ w'.cell? ⟨gb577, 2, none⟩ = some (.slice Ao13 t567.length co13) ∧ w'.cell? ⟨gb607, 0, none⟩ = some (.int .i64 t600) ∧ w'.cell? ⟨gb607, 1, none⟩ = some (.slice Ao81 t601.length co81) ∧ w'.cell? ⟨gb607, 2, none⟩ = some (.slice Ao82 t604.length co82) ∧ w'.cell? (ad616.add (x8_2).toNat) = some (.slice (some ad617) (rd_L4 t608 x8_2).length c616_0) ∧ w'.cell? ad617 = some (.int .i64 (rd (rd_L4 t608 x8_2) 0)) ∧ w'.cell? (ad616.add (x8_2).toNat) = some (.slice (some ad617) (rd_L4 t608 x8_2).length c616_0) ∧ w'.cell? ⟨ad617.block, ad617.off + 1, none⟩ = some (.int .i64 (rd (rd_L4 t608 x8_2) 1)) ∧ w'.cell? (ad616.add (x8_2).toNat) = some (.slice (some ad617) (rd_L4 t608 x8_2).length c616_0) ∧ w'.cell? ad617 = some (.int .i64 (rd (rd_L4 t608 x8_2) 0)) ∧ w'.cell? (ad616.add (x8_2).toNat) = some (.slice (some ad617) (rd_L4 t608 x8_2).length c616_0) ∧ w'.cell? ⟨ad617.block, ad617.off + 1, none⟩ = some (.int .i64 (rd (rd_L4 t608 x8_2) 1))) (ds := []) (bm 31 0) (by kernel_rfl) rfl (bm0 _) ⟨bc0 BK577, bc1 BK577, bc2 BK577, bc0 BK607, bc1 BK607, bc2 BK607, hx616_0, hx617_0, hx618_0, hx619_0, hx620_0, hx621_0, hx622_0, hx623_0⟩ (fun hK4 => ?_); refine with_tabW laws_FnPairs.tab12 laws_FnPairs.bits12 (fun HT_ HW_ => ?_)
          generalize wr.drew = w93 at HO_7 HO_578001 HO_578002 HO_579001 HO_579002 HO_608001 HO_608002 BK577 BK578 BK607 HB HL616_0 HL618_0 HL620_0 HL622_0 HR616_0 HR618_0 HR620_0 HR622_0 hx616_0 hx617_0 hx618_0 hx619_0 hx620_0 hx621_0 hx622_0 hx623_0 hK4 ⊢
          refine pW 0 65 31 1 HT_ rfl rfl ?_
          refine pW 1 66 31 3 HT_ rfl rfl ?_
          refine pW 2 67 31 7 HT_ rfl rfl ?_
          refine pW 6 71 31 71 HT_ rfl rfl ?_
          refine pW 7 72 31 199 HT_ rfl rfl ?_
          refine pW 8 73 31 455 HT_ rfl rfl ?_
          refine tW 3 68 31 463 HT_ HW_ rfl rfl hK4 ?_
          refine pW 4 69 31 479 HT_ rfl rfl ?_
          refine tW 5 70 31 511 HT_ HW_ rfl rfl hK4 ?_
          refine tW 9 74 31 1023 HT_ HW_ rfl rfl hK4 ?_
          refine pW 10 75 31 2047 HT_ rfl rfl ?_
          refine tW 11 76 31 4095 HT_ HW_ rfl rfl hK4 ?_
          refine pW 12 77 31 8191 HT_ rfl rfl ?_
          refine pW 13 78 31 16383 HT_ rfl rfl ?_
          refine pW 16 81 31 81919 HT_ rfl rfl ?_
          refine pW 17 82 31 212991 HT_ rfl rfl ?_
          refine pW 18 83 31 475135 HT_ rfl rfl ?_
          refine pW 22 87 31 4669439 HT_ rfl rfl ?_
          refine pW 23 88 31 13058047 HT_ rfl rfl ?_
          refine pW 24 89 31 29835263 HT_ rfl rfl ?_
          refine tW 14 79 31 29851647 HT_ HW_ rfl rfl hK4 ?_
          refine tW 15 80 31 29884415 HT_ HW_ rfl rfl hK4 ?_
          refine tW 19 84 31 30408703 HT_ HW_ rfl rfl hK4 ?_
          refine pW 20 85 31 31457279 HT_ rfl rfl ?_
          refine tW 21 86 31 33554431 HT_ HW_ rfl rfl hK4 ?_
          refine tW 25 90 31 67108863 HT_ HW_ rfl rfl hK4 ?_
          refine pW 26 91 31 134217727 HT_ rfl rfl ?_
          refine tW 27 92 31 268435455 HT_ HW_ rfl rfl hK4 ?_
          refine one_ (i := 28) (N := some 93) (bm 31 536870911) rfl rfl (one_of HT_.o (by kernel_rfl)) (by decide) (fun K hK => ?_)
          refine goes_ Try.func13 (by kernel_rfl) rfl #[.agg #[.int .i64 t563, .slice Ao12 t564.length co12, .slice Ao13 t567.length co13], .agg #[.int .i64 t600, .slice Ao81 t601.length co81, .slice Ao82 t604.length co82], .int .i64 (rd (rd_L4 t608 x8_2) 0), .int .i64 (rd (rd_L4 t608 x8_2) 1)] (by rfl) rfl rfl zG ?_
          with_reducible refine (impl_TroubleAt.calls k2 t563 _ _ t564 _ _ t567 t600 _ _ t601 _ _ t604 (rd (rd_L4 t608 x8_2) 0) (rd (rd_L4 t608 x8_2) 1) t624 _ ?s1 ?s2 ?s3 ?s4 ?s5 ?s6 ?s7 ?s8 A92.o).mono ?_
          (case s1 => exact cU (rQ HO_578001.o).2.2)
          (case s2 => exact (rQ HO_578001.o).2.1)
          (case s3 => exact cU (rQ HO_578002.o).2.2)
          (case s4 => exact (rQ HO_578002.o).2.1)
          (case s5 => exact cU (rQ HO_608001.o).2.2)
          (case s6 => exact (rQ HO_608001.o).2.1)
          (case s7 => exact cU (rQ HO_608002.o).2.2)
          (case s8 => exact (rQ HO_608002.o).2.1)
          rintro e w94 ⟨rfl, hb⟩
          have HS6_ := (hb.cell (wL _ _ (hK4.2.2.2.2.2.2.1))).trans (hK4.2.2.2.2.2.2.1)
          have HS7_ := (hb.cell (wL _ _ (hK4.2.2.2.2.2.2.2.1))).trans (hK4.2.2.2.2.2.2.2.1)
          have HS8_ := (hb.cell (wL _ _ (hK4.2.2.2.2.2.2.2.2.1))).trans (hK4.2.2.2.2.2.2.2.2.1)
          have HS9_ := (hb.cell (wL _ _ (hK4.2.2.2.2.2.2.2.2.2.1))).trans (hK4.2.2.2.2.2.2.2.2.2.1)
          have HS10_ := (hb.cell (wL _ _ (hK4.2.2.2.2.2.2.2.2.2.2.1))).trans (hK4.2.2.2.2.2.2.2.2.2.2.1)
          have HS11_ := (hb.cell (wL _ _ (hK4.2.2.2.2.2.2.2.2.2.2.2.1))).trans (hK4.2.2.2.2.2.2.2.2.2.2.2.1)
          have HS12_ := (hb.cell (wL _ _ (hK4.2.2.2.2.2.2.2.2.2.2.2.2.1))).trans (hK4.2.2.2.2.2.2.2.2.2.2.2.2.1)
          have HS13_ := (hb.cell (wL _ _ (hK4.2.2.2.2.2.2.2.2.2.2.2.2.2))).trans (hK4.2.2.2.2.2.2.2.2.2.2.2.2.2)
          refine ⟨_, rfl, ?_⟩
          replace HO_7 := aM (Kd.S_below (zS HO_7) hb)
          replace HO_578001 := aM (rW (zR HO_578001) hb)
          replace HO_578002 := aM (rW (zR HO_578002) hb)
          replace HO_579001 := aM (rW (zR HO_579001) hb)
          replace HO_579002 := aM (rW (zR HO_579002) hb)
          replace HO_608001 := aM (rW (zR HO_608001) hb)
          replace HO_608002 := aM (rW (zR HO_608002) hb)
          replace HL616_0 := aM (rW (zR HL616_0) hb)
          replace HL618_0 := aM (rW (zR HL618_0) hb)
          replace HL620_0 := aM (rW (zR HL620_0) hb)
          replace HL622_0 := aM (rW (zR HL622_0) hb)
          replace BK577 := kB BK577 hb
          replace BK578 := kB BK578 hb
          replace BK607 := kB BK607 hb
          replace HR616_0 := aM (Kd.C_below (by repeat (first | (with_reducible exact HR616_0.o) | (with_reducible refine qA ?_ _) | (with_reducible refine qN ?_ _) | (with_reducible refine qD ?_) | exact HR616_0.o)) hb)
          replace HR618_0 := aM (Kd.C_below (by repeat (first | (with_reducible exact HR618_0.o) | (with_reducible refine qA ?_ _) | (with_reducible refine qN ?_ _) | (with_reducible refine qD ?_) | exact HR618_0.o)) hb)
          replace HR620_0 := aM (Kd.C_below (by repeat (first | (with_reducible exact HR620_0.o) | (with_reducible refine qA ?_ _) | (with_reducible refine qN ?_ _) | (with_reducible refine qD ?_) | exact HR620_0.o)) hb)
          replace HR622_0 := aM (Kd.C_below (by repeat (first | (with_reducible exact HR622_0.o) | (with_reducible refine qA ?_ _) | (with_reducible refine qN ?_ _) | (with_reducible refine qD ?_) | exact HR622_0.o)) hb)
          replace HB := bS HB hb
          (try clear hb); (try clear hb2); (try clear hk); (try clear hi)
          refine hK.out _ _ ⟨bc0 BK577, bc1 BK577, bc2 BK577, bc0 BK607, bc1 BK607, bc2 BK607, HS6_, HS7_, HS8_, HS9_, HS10_, HS11_, HS12_, HS13_⟩ (fun hK4 => ?_)
          clear hK K
          refine nU 93 ?_
          refine pW 29 94 31 1073741823 HT_ rfl rfl ?_
          refine pW 30 95 31 2147483647 HT_ rfl rfl ?_
          refine done_ (done_of HT_.o (by kernel_rfl)) ?_
          try clear hK4
          try go_wp2
          go_meet
          case rel => exact ⟨_, ((t624 == 1)), zF, H', ⟨by have := HJ5.o; have := HK2.o; first | omega | exact Nat.le_refl _⟩, ⟨zS HO_7⟩, ⟨zR HO_578001⟩, ⟨zR HO_578002⟩, ⟨zR HO_579001⟩, ⟨zR HO_579002⟩, ⟨zR HO_608001⟩, ⟨zR HO_608002⟩, ⟨zK BK577⟩, ⟨zK BK578⟩, ⟨zK BK607⟩, ⟨zB HB⟩⟩
         ·rw [if_neg c91] at H
          have c91b0 : ((rd (rd_L4 t608 x8_2) 0) == (rd (rd_L4 t608 x8_2) 1)) = false := beq_eq_false_iff_ne.mpr c91
          have c91b1 : ((rd (rd_L4 t608 x8_2) 0) != (rd (rd_L4 t608 x8_2) 1)) = true := bne_iff_ne.mpr c91
          have H' := aM H
          clear H
          try go_wp2
          replace HO_7 := aM (Kd.S_drew HO_7.o)
          replace HO_578001 := aM (rD HO_578001.o)
          replace HO_578002 := aM (rD HO_578002.o)
          replace HO_579001 := aM (rD HO_579001.o)
          replace HO_579002 := aM (rD HO_579002.o)
          replace HO_608001 := aM (rD HO_608001.o)
          replace HO_608002 := aM (rD HO_608002.o)
          replace BK577 := aM (bD BK577.o)
          replace BK578 := aM (bD BK578.o)
          replace BK607 := aM (bD BK607.o)
          replace HB := aM (below_drew1 HB.o)
          have p616 : 0 ≤ (x8_2 : Int) := zD
          have q616 : x8_2 < (t608.length : Int) := zD
          obtain ⟨ad616, A616_0, c616_0, e616, hx616_0, hl616_0, hi616_0⟩ := at_L4 (Kd.S_reads' HO_7.o).2.2 x8_2 p616 q616
          cases e616
          obtain ⟨ce616, hce616, hMe616, hcc616⟩ := Kd.S_get HO_7.o [] x8_2 p616 (by first | exact q616 | exact zD | (have e_ := (Kd.S_reads' HO_7.o).1; omega))
          obtain ⟨ve616_0, rfl, ge616_0⟩ := hMe616
          have hv616_0 := hcc616 0 _ rfl
          rw [Nat.add_zero, show ((Kd.slice 3 (Kd.int .i64))).sz = 1 from rfl, Nat.mul_one] at hv616_0
          replace hv616_0 := oI (hv616_0.symm.trans hx616_0)
          rw [hv616_0] at ge616_0
          have HL616_0 := aM (show Kd.R (Kd.int .i64) 3 _ _ _ _ (rd_L4 t608 x8_2) from ge616_0)
          clear hv616_0 ge616_0
          clear hcc616 hce616
          have HR616_0 := aM hi616_0
          have HC616_0 := aM hl616_0
          clear hi616_0 hl616_0
          replace p616 := eq_true p616
          replace q616 := eq_true q616
          have p617 : 0 ≤ (0 : Int) := (by omega)
          have q617 : 0 < ((rd_L4 t608 x8_2).length : Int) := zD
          obtain ⟨ad617, e617, hx617_0⟩ := Kd.at_int (by repeat (first | (with_reducible exact HR616_0.o) | (with_reducible refine qA ?_ _) | (with_reducible refine qN ?_ _) | (with_reducible refine qD ?_) | exact HR616_0.o)) 0 p617 q617
          cases e617
          have qi617 : (0 < (rd_L4 t608 x8_2).length) = True := eq_true (by omega)
          (try rw [show ((0 : Int)).toNat = 0 from rfl] at hx617_0)
          (try rw [Addr.add_zero'] at hx617_0)
          replace p617 := eq_true p617
          replace q617 := eq_true q617
          have p618 : 0 ≤ (x8_2 : Int) := zD
          have q618 : x8_2 < (t608.length : Int) := zD
          obtain ⟨ad618, A618_0, c618_0, e618, hx618_0, hl618_0, hi618_0⟩ := at_L4 (Kd.S_reads' HO_7.o).2.2 x8_2 p618 q618
          obtain rfl : ad616 = ad618 := (by injection e618)
          obtain ⟨ce618, hce618, hMe618, hcc618⟩ := Kd.S_get HO_7.o [] x8_2 p618 (by first | exact q618 | exact zD | (have e_ := (Kd.S_reads' HO_7.o).1; omega))
          obtain ⟨ve618_0, rfl, ge618_0⟩ := hMe618
          have hv618_0 := hcc618 0 _ rfl
          rw [Nat.add_zero, show ((Kd.slice 3 (Kd.int .i64))).sz = 1 from rfl, Nat.mul_one] at hv618_0
          replace hv618_0 := oI (hv618_0.symm.trans hx618_0)
          rw [hv618_0] at ge618_0
          have HL618_0 := aM (show Kd.R (Kd.int .i64) 3 _ _ _ _ (rd_L4 t608 x8_2) from ge618_0)
          clear hv618_0 ge618_0
          clear hcc618 hce618
          have HR618_0 := aM hi618_0
          have HC618_0 := aM hl618_0
          clear hi618_0 hl618_0
          replace p618 := eq_true p618
          replace q618 := eq_true q618
          have ea_ := oI (hx616_0.symm.trans hx618_0)
          injection ea_ with ea_ en_ ec_
          subst ea_
          subst ec_
          clear en_
          have p619 : 0 ≤ (1 : Int) := (by omega)
          have q619 : 1 < ((rd_L4 t608 x8_2).length : Int) := zD
          obtain ⟨ad619, e619, hx619_0⟩ := Kd.at_int (by repeat (first | (with_reducible exact HR618_0.o) | (with_reducible refine qA ?_ _) | (with_reducible refine qN ?_ _) | (with_reducible refine qD ?_) | exact HR618_0.o)) 1 p619 q619
          cases e619
          (try simp only [show (1 : Int).toNat = 1 from rfl, Nat.reduceMul, Nat.reduceEqDiff, Go.Addr.add, ↓reduceIte] at hx619_0)
          have qi619 : (1 < (rd_L4 t608 x8_2).length) = True := eq_true (by omega)
          (try rw [show ((1 : Int)).toNat = 1 from rfl] at hx619_0)
          replace p619 := eq_true p619
          replace q619 := eq_true q619
          refine start_ (n := 31) (S := fun w' => w'.cell? (ad616.add (x8_2).toNat) = some (.slice (some ad617) (rd_L4 t608 x8_2).length c616_0) ∧ w'.cell? ad617 = some (.int .i64 (rd (rd_L4 t608 x8_2) 0)) ∧ w'.cell? (ad616.add (x8_2).toNat) = some (.slice (some ad617) (rd_L4 t608 x8_2).length c616_0) ∧ w'.cell? ⟨ad617.block, ad617.off + 1, none⟩ = some (.int .i64 (rd (rd_L4 t608 x8_2) 1))) (ds := []) (bm 31 0) (by kernel_rfl) rfl (bm0 _) ⟨hx616_0, hx617_0, hx618_0, hx619_0⟩ (fun hK4 => ?_); refine with_tabW laws_FnPairs.tab12 laws_FnPairs.bits12 (fun HT_ HW_ => ?_)
          generalize wr.drew = w95 at HO_7 HO_578001 HO_578002 HO_579001 HO_579002 HO_608001 HO_608002 BK577 BK578 BK607 HB HL616_0 HL618_0 HR616_0 HR618_0 hx616_0 hx617_0 hx618_0 hx619_0 hK4 ⊢
          refine pW 0 65 31 1 HT_ rfl rfl ?_
          refine pW 1 66 31 3 HT_ rfl rfl ?_
          refine pW 2 67 31 7 HT_ rfl rfl ?_
          refine pW 6 71 31 71 HT_ rfl rfl ?_
          refine pW 7 72 31 199 HT_ rfl rfl ?_
          refine pW 8 73 31 455 HT_ rfl rfl ?_
          refine tW 3 68 31 463 HT_ HW_ rfl rfl hK4 ?_
          refine pW 4 69 31 479 HT_ rfl rfl ?_
          refine tW 5 70 31 511 HT_ HW_ rfl rfl hK4 ?_
          refine tW 9 74 31 1023 HT_ HW_ rfl rfl hK4 ?_
          refine pW 10 75 31 2047 HT_ rfl rfl ?_
          refine tW 11 76 31 4095 HT_ HW_ rfl rfl hK4 ?_
          refine pW 12 77 31 8191 HT_ rfl rfl ?_
          refine pW 13 78 31 16383 HT_ rfl rfl ?_
          refine pV 14 (some 79) (bm 31 32767) HT_ rfl rfl ?_
          refine pV 15 (some 80) (bm 31 65535) HT_ rfl rfl ?_
          refine pV 16 (some 81) (bm 31 131071) HT_ rfl rfl ?_
          refine pV 17 (some 82) (bm 31 262143) HT_ rfl rfl ?_
          refine pV 18 (some 83) (bm 31 524287) HT_ rfl rfl ?_
          refine pV 19 (some 84) (bm 31 1048575) HT_ rfl rfl ?_
          refine pV 20 (some 85) (bm 31 2097151) HT_ rfl rfl ?_
          refine pV 21 (some 86) (bm 31 4194303) HT_ rfl rfl ?_
          refine pV 22 (some 87) (bm 31 8388607) HT_ rfl rfl ?_
          refine pV 23 (some 88) (bm 31 16777215) HT_ rfl rfl ?_
          refine pV 24 (some 89) (bm 31 33554431) HT_ rfl rfl ?_
          refine pV 25 (some 90) (bm 31 67108863) HT_ rfl rfl ?_
          refine pV 26 (some 91) (bm 31 134217727) HT_ rfl rfl ?_
          refine pV 27 (some 92) (bm 31 268435455) HT_ rfl rfl ?_
          refine pV 28 (some 93) (bm 31 536870911) HT_ rfl rfl ?_
          refine pV 29 (some 94) (bm 31 1073741823) HT_ rfl rfl ?_
          refine pW 30 95 31 2147483647 HT_ rfl rfl ?_
          refine done_ (done_of HT_.o (by kernel_rfl)) ?_
          try clear hK4
          try go_wp2
          go_meet
          case rel => exact ⟨_, (true), zF, H', ⟨by have := HJ5.o; have := HK2.o; first | omega | exact Nat.le_refl _⟩, ⟨zS HO_7⟩, ⟨zR HO_578001⟩, ⟨zR HO_578002⟩, ⟨zR HO_579001⟩, ⟨zR HO_579002⟩, ⟨zR HO_608001⟩, ⟨zR HO_608002⟩, ⟨zK BK577⟩, ⟨zK BK578⟩, ⟨zK BK607⟩, ⟨zB HB⟩⟩
        case rest =>
         clear HC86
         try clear c1
         try clear p2
         try clear c6
         try clear p6
         try clear q6
         try clear hx6
         try clear qi6
         try clear c8
         try clear c9
         try clear c13
         try clear c61
         try clear p61
         try clear q61
         try clear hx61
         try clear qi61
         try clear c88
         try clear c89
         try clear c90
         try clear c91
         try clear c91b0
         try clear c91b1
         try clear hx616_0
         try clear hx617_0
         try clear hx618_0
         try clear hx619_0
         try clear p616
         try clear p617
         try clear p618
         try clear p619
         try clear q616
         try clear q617
         try clear q618
         try clear q619
         obtain ⟨kq, x95_85, rfl, HA, HJ85, HO_7, HO_578001, HO_578002, HO_579001, HO_579002, HO_608001, HO_608002, BK577, BK578, BK607, HB⟩ := hcut
         cases kq with
         | zero => exact absurd HA.o (by simp [laws_FnPairs.j2])
         | succ kj85 =>
          have H := HA.o
          clear HA
          simp only [laws_FnPairs.j2] at H
          by_cases c96 : x95_85 = true
          ·subst c96
           have H1 : (some false) = some r := by rw [if_pos rfl] at H; exact H
           clear H
           have H := H1
           clear H1
           exact absurd H (by simp [ht_])
          ·replace c96 := Bool.eq_false_iff.mpr c96
           subst c96
           have H1 : (if 0 ≤ x8_2 then (if x8_2 < (t608.length : Int) then (if 0 < ((rd_L4 t608 x8_2).length : Int) then (if 1 < ((rd_L4 t608 x8_2).length : Int) then ((impl_NextPairs.f kj85 t563 t564 t567 t600 t601 t604 (rd (rd_L4 t608 x8_2) 0) (rd (rd_L4 t608 x8_2) 1)).bind fun t629 => (laws_FnPairs.l1 kj85 t579 t608 x8_2 t629 0 t563 t564 t567 t570 t571 t574 t600 t601 t604)) else (none)) else (none)) else (none)) else (none)) = some r := by rw [if_neg (show ¬ (false = true) by decide)] at H; exact H
           clear H
           have H := H1
           clear H1
           obtain ⟨c97, H⟩ := ifS H
           have c97b0 : decide (0 ≤ x8_2) = true := dT c97
           clear c97
           obtain ⟨c98, H⟩ := ifS H
           have c98b0 : decide (x8_2 < (t608.length : Int)) = true := dT c98
           clear c98
           obtain ⟨c99, H⟩ := ifS H
           have c99b0 : decide (0 < ((rd_L4 t608 x8_2).length : Int)) = true := dT c99
           have c99b1 : decide (0 < (rd_L4 t608 x8_2).length) = true := dT (by omega)
           clear c99
           obtain ⟨c100, H⟩ := ifS H
           have c100b0 : decide (1 < ((rd_L4 t608 x8_2).length : Int)) = true := dT c100
           have c100b1 : decide (1 < (rd_L4 t608 x8_2).length) = true := dT (by omega)
           clear c100
           obtain ⟨t629, A101, H⟩ := bindS H
           have H' := aM H
           clear H
           try go_wp2
           replace HO_7 := aM (Kd.S_drew HO_7.o)
           replace HO_578001 := aM (rD HO_578001.o)
           replace HO_578002 := aM (rD HO_578002.o)
           replace HO_579001 := aM (rD HO_579001.o)
           replace HO_579002 := aM (rD HO_579002.o)
           replace HO_608001 := aM (rD HO_608001.o)
           replace HO_608002 := aM (rD HO_608002.o)
           replace BK577 := aM (bD BK577.o)
           replace BK578 := aM (bD BK578.o)
           replace BK607 := aM (bD BK607.o)
           replace HB := aM (below_drew1 HB.o)
           have p625 : 0 ≤ (x8_2 : Int) := zD
           have q625 : x8_2 < (t608.length : Int) := zD
           obtain ⟨ad625, A625_0, c625_0, e625, hx625_0, hl625_0, hi625_0⟩ := at_L4 (Kd.S_reads' HO_7.o).2.2 x8_2 p625 q625
           cases e625
           obtain ⟨ce625, hce625, hMe625, hcc625⟩ := Kd.S_get HO_7.o [] x8_2 p625 (by first | exact q625 | exact zD | (have e_ := (Kd.S_reads' HO_7.o).1; omega))
           obtain ⟨ve625_0, rfl, ge625_0⟩ := hMe625
           have hv625_0 := hcc625 0 _ rfl
           rw [Nat.add_zero, show ((Kd.slice 3 (Kd.int .i64))).sz = 1 from rfl, Nat.mul_one] at hv625_0
           replace hv625_0 := oI (hv625_0.symm.trans hx625_0)
           rw [hv625_0] at ge625_0
           have HL625_0 := aM (show Kd.R (Kd.int .i64) 3 _ _ _ _ (rd_L4 t608 x8_2) from ge625_0)
           clear hv625_0 ge625_0
           clear hcc625 hce625
           have HR625_0 := aM hi625_0
           have HC625_0 := aM hl625_0
           clear hi625_0 hl625_0
           replace p625 := eq_true p625
           replace q625 := eq_true q625
           have p626 : 0 ≤ (0 : Int) := (by omega)
           have q626 : 0 < ((rd_L4 t608 x8_2).length : Int) := zD
           obtain ⟨ad626, e626, hx626_0⟩ := Kd.at_int (by repeat (first | (with_reducible exact HR625_0.o) | (with_reducible refine qA ?_ _) | (with_reducible refine qN ?_ _) | (with_reducible refine qD ?_) | exact HR625_0.o)) 0 p626 q626
           cases e626
           have qi626 : (0 < (rd_L4 t608 x8_2).length) = True := eq_true (by omega)
           (try rw [show ((0 : Int)).toNat = 0 from rfl] at hx626_0)
           (try rw [Addr.add_zero'] at hx626_0)
           replace p626 := eq_true p626
           replace q626 := eq_true q626
           have p627 : 0 ≤ (x8_2 : Int) := zD
           have q627 : x8_2 < (t608.length : Int) := zD
           obtain ⟨ad627, A627_0, c627_0, e627, hx627_0, hl627_0, hi627_0⟩ := at_L4 (Kd.S_reads' HO_7.o).2.2 x8_2 p627 q627
           obtain rfl : ad625 = ad627 := (by injection e627)
           obtain ⟨ce627, hce627, hMe627, hcc627⟩ := Kd.S_get HO_7.o [] x8_2 p627 (by first | exact q627 | exact zD | (have e_ := (Kd.S_reads' HO_7.o).1; omega))
           obtain ⟨ve627_0, rfl, ge627_0⟩ := hMe627
           have hv627_0 := hcc627 0 _ rfl
           rw [Nat.add_zero, show ((Kd.slice 3 (Kd.int .i64))).sz = 1 from rfl, Nat.mul_one] at hv627_0
           replace hv627_0 := oI (hv627_0.symm.trans hx627_0)
           rw [hv627_0] at ge627_0
           have HL627_0 := aM (show Kd.R (Kd.int .i64) 3 _ _ _ _ (rd_L4 t608 x8_2) from ge627_0)
           clear hv627_0 ge627_0
           clear hcc627 hce627
           have HR627_0 := aM hi627_0
           have HC627_0 := aM hl627_0
           clear hi627_0 hl627_0
           replace p627 := eq_true p627
           replace q627 := eq_true q627
           have ea_ := oI (hx625_0.symm.trans hx627_0)
           injection ea_ with ea_ en_ ec_
           subst ea_
           subst ec_
           clear en_
           have p628 : 0 ≤ (1 : Int) := (by omega)
           have q628 : 1 < ((rd_L4 t608 x8_2).length : Int) := zD
           obtain ⟨ad628, e628, hx628_0⟩ := Kd.at_int (by repeat (first | (with_reducible exact HR627_0.o) | (with_reducible refine qA ?_ _) | (with_reducible refine qN ?_ _) | (with_reducible refine qD ?_) | exact HR627_0.o)) 1 p628 q628
           cases e628
           (try simp only [show (1 : Int).toNat = 1 from rfl, Nat.reduceMul, Nat.reduceEqDiff, Go.Addr.add, ↓reduceIte] at hx628_0)
           have qi628 : (1 < (rd_L4 t608 x8_2).length) = True := eq_true (by omega)
           (try rw [show ((1 : Int)).toNat = 1 from rfl] at hx628_0)
           replace p628 := eq_true p628
           replace q628 := eq_true q628
           refine start_ (n := 16) (S := fun w' => w'.cell? ⟨gb577, 0, none⟩ = some (.int .i64 t563) ∧ w'.cell? ⟨gb577, 1, none⟩ = some (.slice Ao12 t564.length co12) ∧ w'.cell? ⟨gb577, 2, none⟩ = some (.slice Ao13 t567.length co13) ∧ w'.cell? ⟨gb607, 0, none⟩ = some (.int .i64 t600) ∧ w'.cell? ⟨gb607, 1, none⟩ = some (.slice Ao81 t601.length co81) ∧ w'.cell? ⟨gb607, 2, none⟩ = some (.slice Ao82 t604.length co82) ∧ w'.cell? (ad625.add (x8_2).toNat) = some (.slice (some ad626) (rd_L4 t608 x8_2).length c625_0) ∧ w'.cell? ad626 = some (.int .i64 (rd (rd_L4 t608 x8_2) 0)) ∧ w'.cell? (ad625.add (x8_2).toNat) = some (.slice (some ad626) (rd_L4 t608 x8_2).length c625_0) ∧ w'.cell? ⟨ad626.block, ad626.off + 1, none⟩ = some (.int .i64 (rd (rd_L4 t608 x8_2) 1))) (ds := []) (bm 16 0) (by kernel_rfl) rfl (bm0 _) ⟨bc0 BK577, bc1 BK577, bc2 BK577, bc0 BK607, bc1 BK607, bc2 BK607, hx625_0, hx626_0, hx627_0, hx628_0⟩ (fun hK4 => ?_); refine with_tabW laws_FnPairs.tab14 laws_FnPairs.bits14 (fun HT_ HW_ => ?_)
           generalize wc.drew = w102 at HO_7 HO_578001 HO_578002 HO_579001 HO_579002 HO_608001 HO_608002 BK577 BK578 BK607 HB HL625_0 HL627_0 HR625_0 HR627_0 hx625_0 hx626_0 hx627_0 hx628_0 hK4 ⊢
           refine pW 2 98 16 4 HT_ rfl rfl ?_
           refine pW 3 99 16 12 HT_ rfl rfl ?_
           refine pW 4 100 16 28 HT_ rfl rfl ?_
           refine pW 8 104 16 284 HT_ rfl rfl ?_
           refine pW 9 105 16 796 HT_ rfl rfl ?_
           refine pW 10 106 16 1820 HT_ rfl rfl ?_
           refine tW 0 96 16 1821 HT_ HW_ rfl rfl hK4 ?_
           refine tW 1 97 16 1823 HT_ HW_ rfl rfl hK4 ?_
           refine tW 5 101 16 1855 HT_ HW_ rfl rfl hK4 ?_
           refine pW 6 102 16 1919 HT_ rfl rfl ?_
           refine tW 7 103 16 2047 HT_ HW_ rfl rfl hK4 ?_
           refine tW 11 107 16 4095 HT_ HW_ rfl rfl hK4 ?_
           refine pW 12 108 16 8191 HT_ rfl rfl ?_
           refine tW 13 109 16 16383 HT_ HW_ rfl rfl hK4 ?_
           refine one_ (i := 14) (N := some 110) (bm 16 32767) rfl rfl (one_of HT_.o (by kernel_rfl)) (by decide) (fun K hK => ?_)
           refine goes_ Try.func14 (by kernel_rfl) rfl #[.agg #[.int .i64 t563, .slice Ao12 t564.length co12, .slice Ao13 t567.length co13], .agg #[.int .i64 t600, .slice Ao81 t601.length co81, .slice Ao82 t604.length co82], .int .i64 (rd (rd_L4 t608 x8_2) 0), .int .i64 (rd (rd_L4 t608 x8_2) 1)] (by rfl) rfl rfl zG ?_
           with_reducible refine (impl_NextPairs.calls kj85 t563 _ _ t564 _ _ t567 t600 _ _ t601 _ _ t604 (rd (rd_L4 t608 x8_2) 0) (rd (rd_L4 t608 x8_2) 1) t629 _ ?s1 ?s2 ?s3 ?s4 ?s5 ?s6 ?s7 ?s8 A101.o).mono ?_
           (case s1 => exact cU (rQ HO_578001.o).2.2)
           (case s2 => exact (rQ HO_578001.o).2.1)
           (case s3 => exact cU (rQ HO_578002.o).2.2)
           (case s4 => exact (rQ HO_578002.o).2.1)
           (case s5 => exact cU (rQ HO_608001.o).2.2)
           (case s6 => exact (rQ HO_608001.o).2.1)
           (case s7 => exact cU (rQ HO_608002.o).2.2)
           (case s8 => exact (rQ HO_608002.o).2.1)
           rintro e w103 ⟨v630, rfl, ho0, hb⟩
           have HS6_ := (hb.cell (wL _ _ (hK4.2.2.2.2.2.2.1))).trans (hK4.2.2.2.2.2.2.1)
           have HS7_ := (hb.cell (wL _ _ (hK4.2.2.2.2.2.2.2.1))).trans (hK4.2.2.2.2.2.2.2.1)
           have HS8_ := (hb.cell (wL _ _ (hK4.2.2.2.2.2.2.2.2.1))).trans (hK4.2.2.2.2.2.2.2.2.1)
           have HS9_ := (hb.cell (wL _ _ (hK4.2.2.2.2.2.2.2.2.2))).trans (hK4.2.2.2.2.2.2.2.2.2)
           refine ⟨_, rfl, ?_⟩
           replace HO_578001 := aM (rW (zR HO_578001) hb)
           replace HO_578002 := aM (rW (zR HO_578002) hb)
           replace HO_579001 := aM (rW (zR HO_579001) hb)
           replace HO_579002 := aM (rW (zR HO_579002) hb)
           replace HO_608001 := aM (rW (zR HO_608001) hb)
           replace HO_608002 := aM (rW (zR HO_608002) hb)
           have HO631 := aM (Kd.S_lower (Kd.S_new' (Kd.S_new' (Kd.S_new' ho0 (Kd.S_lt (zS HO_7))) (Kd.R_lt (zR HL625_0))) (Kd.R_lt (zR HL627_0))) (bZ (zB HB)))
           replace HO_7 := aM (Kd.S_elder' (zS HO_7) (Kd.S_base ho0) hb)
           replace HL625_0 := aM (rW (zR HL625_0) hb)
           replace HL627_0 := aM (rW (zR HL627_0) hb)
           replace BK577 := kB BK577 hb
           replace BK578 := kB BK578 hb
           replace BK607 := kB BK607 hb
           replace HR625_0 := aM (Kd.C_below (by repeat (first | (with_reducible exact HR625_0.o) | (with_reducible refine qA ?_ _) | (with_reducible refine qN ?_ _) | (with_reducible refine qD ?_) | exact HR625_0.o)) hb)
           replace HR627_0 := aM (Kd.C_below (by repeat (first | (with_reducible exact HR627_0.o) | (with_reducible refine qA ?_ _) | (with_reducible refine qN ?_ _) | (with_reducible refine qD ?_) | exact HR627_0.o)) hb)
           replace HB := bS HB hb
           (try clear hb); (try clear hb2); (try clear hk); (try clear hi); (try clear ho0)
           refine hK.out _ _ ⟨bc0 BK577, bc1 BK577, bc2 BK577, bc0 BK607, bc1 BK607, bc2 BK607, HS6_, HS7_, HS8_, HS9_⟩ (fun hK4 => ?_)
           clear hK K
           refine nU 110 ?_
           refine pW 15 9 16 65535 HT_ rfl rfl ?_
           refine done_ (done_of HT_.o (by kernel_rfl)) ?_
           try clear hK4
           try go_wp2
           go_loopg [10] kj85 (fun kq v10 w' => ∃ (x10_4 : Int), v10 = .int .i64 x10_4 ∧ Aside0 (laws_FnPairs.l1 kq t579 t608 x8_2 t629 x10_4 t563 t564 t567 t570 t571 t574 t600 t601 t604 = some r) ∧ Aside0 (kq ≤ kj85) ∧ Aside0 (Kd.S (Kd.slice 3 (Kd.int .i64)) 31 w' w.heap.size (fun k_ => some k_ ≠ (v630 : Value).ownBlock) (.slice (some ad625) t608.length co87) t608) ∧ Aside0 (Kd.S (Kd.slice 3 (Kd.int .i64)) 31 w' w.heap.size (fun k_ => some k_ ≠ ((.slice (some ad625) t608.length co87) : Value).ownBlock) v630 t629) ∧ Aside0 (Kd.R Kd.bool 4 w' w.heap.size (fun k_ => some k_ ≠ ((.slice Ao15 t571.length co15) : Value).ownBlock ∧ some k_ ≠ ((.slice Ao81 t601.length co81) : Value).ownBlock) (.slice Ao12 t564.length co12) t564) ∧ Aside0 (Kd.R k46 46 w' w.heap.size (fun k_ => some k_ ≠ ((.slice Ao16 t574.length co16) : Value).ownBlock ∧ some k_ ≠ ((.slice Ao82 t604.length co82) : Value).ownBlock) (.slice Ao13 t567.length co13) t567) ∧ Aside0 (Kd.R Kd.bool 4 w' w.heap.size (fun k_ => some k_ ≠ ((.slice Ao12 t564.length co12) : Value).ownBlock ∧ some k_ ≠ ((.slice Ao81 t601.length co81) : Value).ownBlock) (.slice Ao15 t571.length co15) t571) ∧ Aside0 (Kd.R k46 46 w' w.heap.size (fun k_ => some k_ ≠ ((.slice Ao13 t567.length co13) : Value).ownBlock ∧ some k_ ≠ ((.slice Ao82 t604.length co82) : Value).ownBlock) (.slice Ao16 t574.length co16) t574) ∧ Aside0 (Kd.R Kd.bool 4 w' w.heap.size (fun k_ => some k_ ≠ ((.slice Ao12 t564.length co12) : Value).ownBlock ∧ some k_ ≠ ((.slice Ao15 t571.length co15) : Value).ownBlock) (.slice Ao81 t601.length co81) t601) ∧ Aside0 (Kd.R k46 46 w' w.heap.size (fun k_ => some k_ ≠ ((.slice Ao13 t567.length co13) : Value).ownBlock ∧ some k_ ≠ ((.slice Ao16 t574.length co16) : Value).ownBlock) (.slice Ao82 t604.length co82) t604) ∧ Aside0 (w'.heap[gb577]? = some (.cells #[.int .i64 t563, (.slice Ao12 t564.length co12), (.slice Ao13 t567.length co13)] 27 (0, 0))) ∧ Aside0 (w'.heap[gb578]? = some (.cells #[.int .i64 t570, (.slice Ao15 t571.length co15), (.slice Ao16 t574.length co16)] 27 (0, 0))) ∧ Aside0 (w'.heap[gb607]? = some (.cells #[.int .i64 t600, (.slice Ao81 t601.length co81), (.slice Ao82 t604.length co82)] 27 (0, 0))) ∧ Aside0 (Kd.C (Kd.int .i64) w' (some ad626) (rd_L4 t608 x8_2).length (rd_L4 t608 x8_2)) ∧ Aside0 (Kd.C (Kd.int .i64) w' (some ad626) (rd_L4 t608 x8_2).length (rd_L4 t608 x8_2)) ∧ Aside0 (Below w.heap.size w w'))
           case atStart => exact ⟨(0), zF, H', ⟨Nat.le_refl _⟩, ⟨by (with_reducible repeat (first | apply Kd.S_alloc | apply Kd.S_drewN | apply Kd.S_drew)); exact Kd.S_mono HO_7.o (fun _ hk => hk.2)⟩, ⟨by (with_reducible repeat (first | apply Kd.S_alloc | apply Kd.S_drewN | apply Kd.S_drew)); exact Kd.S_mono HO631.o (fun _ hk => hk.1.1.2)⟩, ⟨zR HO_578001⟩, ⟨zR HO_578002⟩, ⟨zR HO_579001⟩, ⟨zR HO_579002⟩, ⟨zR HO_608001⟩, ⟨zR HO_608002⟩, ⟨zK BK577⟩, ⟨zK BK578⟩, ⟨zK BK607⟩, ⟨by repeat (first | (with_reducible exact HR625_0.o) | (with_reducible refine qA ?_ _) | (with_reducible refine qN ?_ _) | (with_reducible refine qD ?_) | exact HR625_0.o)⟩, ⟨by repeat (first | (with_reducible exact HR627_0.o) | (with_reducible refine qA ?_ _) | (with_reducible refine qN ?_ _) | (with_reducible refine qD ?_) | exact HR627_0.o)⟩, ⟨zB HB⟩⟩
           case round =>
            clear H'
            try clear c1
            try clear p2
            try clear c6
            try clear p6
            try clear q6
            try clear hx6
            try clear qi6
            try clear c8
            try clear c9
            try clear c10
            try clear c13
            try clear c14
            try clear c61
            try clear p61
            try clear q61
            try clear hx61
            try clear qi61
            try clear c62
            try clear p62
            try clear q62
            try clear hx62
            try clear qi62
            try clear c88
            try clear c89
            try clear c90
            try clear c91
            try clear c91b0
            try clear c91b1
            try clear c96
            try clear c97
            try clear c97b0
            try clear c98
            try clear c98b0
            try clear c99
            try clear c99b0
            try clear c99b1
            try clear c100
            try clear c100b0
            try clear c100b1
            try clear hx616_0
            try clear hx617_0
            try clear hx618_0
            try clear hx619_0
            try clear hx625_0
            try clear hx626_0
            try clear hx627_0
            try clear hx628_0
            try clear p2
            try clear p6
            try clear p61
            try clear p616
            try clear p617
            try clear p618
            try clear p619
            try clear p625
            try clear p626
            try clear p627
            try clear p628
            try clear q6
            try clear q61
            try clear q616
            try clear q617
            try clear q618
            try clear q619
            try clear q625
            try clear q626
            try clear q627
            try clear q628
            obtain ⟨x10_4, rfl, HA, HK4, HO_7, HO_9, HO_578001, HO_578002, HO_579001, HO_579002, HO_608001, HO_608002, BK577, BK578, BK607, HR625_0, HR627_0, HB⟩ := hrel
            cases gk with
            | zero => exact absurd HA.o (by simp [laws_FnPairs.l1])
            | succ k4 =>
             have H := HA.o
             clear HA
             simp only [laws_FnPairs.l1] at H
             by_cases c104 : x10_4 < (t629.length : Int)
             ·rw [if_pos c104] at H
              have c104b0 : decide (x10_4 < (t629.length : Int)) = true := dT c104
              clear c104
              obtain ⟨c105, H⟩ := ifS H
              have c105b0 : decide (0 ≤ x10_4) = true := dT c105
              clear c105
              obtain ⟨c106, H⟩ := ifS H
              have c106b0 : decide (0 < ((rd_L4 t629 x10_4).length : Int)) = true := dT c106
              have c106b1 : decide (0 < (rd_L4 t629 x10_4).length) = true := dT (by omega)
              clear c106
              by_cases c107 : (rd (rd_L4 t629 x10_4) 0) < 0
              ·rw [if_pos c107] at H
               have c107b0 : decide ((rd (rd_L4 t629 x10_4) 0) < 0) = true := dT c107
               clear c107
               exact absurd H (by simp [ht_])
              ·rw [if_neg c107] at H
               have c107b0 : decide ((rd (rd_L4 t629 x10_4) 0) < 0) = false := decide_eq_false c107
               clear c107
               by_cases c108 : (rd (rd_L4 t629 x10_4) 0) ≥ t563
               ·rw [if_pos c108] at H
                have c108b0 : decide (t563 ≤ (rd (rd_L4 t629 x10_4) 0)) = true := dT c108
                clear c108
                exact absurd H (by simp [ht_])
               ·rw [if_neg c108] at H
                have c108b0 : decide (t563 ≤ (rd (rd_L4 t629 x10_4) 0)) = false := decide_eq_false c108
                clear c108
                have H' := aM H
                clear H
                obtain ⟨Ao109, co109, eo109⟩ := Kd.S_slice HO_9.o
                subst eo109
                try go_wp2
                replace HO_7 := aM (Kd.S_drew HO_7.o)
                replace HO_9 := aM (Kd.S_drew HO_9.o)
                replace HO_578001 := aM (rD HO_578001.o)
                replace HO_578002 := aM (rD HO_578002.o)
                replace HO_579001 := aM (rD HO_579001.o)
                replace HO_579002 := aM (rD HO_579002.o)
                replace HO_608001 := aM (rD HO_608001.o)
                replace HO_608002 := aM (rD HO_608002.o)
                replace BK577 := aM (bD BK577.o)
                replace BK578 := aM (bD BK578.o)
                replace BK607 := aM (bD BK607.o)
                replace HR625_0 := aM (qD HR625_0.o)
                replace HR627_0 := aM (qD HR627_0.o)
                replace HB := aM (below_drew1 HB.o)
                have p632 : 0 ≤ (x10_4 : Int) := zD
                have q632 : x10_4 < (t629.length : Int) := zD
                obtain ⟨ad632, A632_0, c632_0, e632, hx632_0, hl632_0, hi632_0⟩ := at_L4 (Kd.S_reads' HO_9.o).2.2 x10_4 p632 q632
                cases e632
                obtain ⟨ce632, hce632, hMe632, hcc632⟩ := Kd.S_get HO_9.o [] x10_4 p632 (by first | exact q632 | exact zD | (have e_ := (Kd.S_reads' HO_9.o).1; omega))
                obtain ⟨ve632_0, rfl, ge632_0⟩ := hMe632
                have hv632_0 := hcc632 0 _ rfl
                rw [Nat.add_zero, show ((Kd.slice 3 (Kd.int .i64))).sz = 1 from rfl, Nat.mul_one] at hv632_0
                replace hv632_0 := oI (hv632_0.symm.trans hx632_0)
                rw [hv632_0] at ge632_0
                have HL632_0 := aM (show Kd.R (Kd.int .i64) 3 _ _ _ _ (rd_L4 t629 x10_4) from ge632_0)
                clear hv632_0 ge632_0
                clear hcc632 hce632
                have HR632_0 := aM hi632_0
                have HC632_0 := aM hl632_0
                clear hi632_0 hl632_0
                replace p632 := eq_true p632
                replace q632 := eq_true q632
                have p633 : 0 ≤ (0 : Int) := (by omega)
                have q633 : 0 < ((rd_L4 t629 x10_4).length : Int) := zD
                obtain ⟨ad633, e633, hx633_0⟩ := Kd.at_int (by repeat (first | (with_reducible exact HR632_0.o) | (with_reducible refine qA ?_ _) | (with_reducible refine qN ?_ _) | (with_reducible refine qD ?_) | exact HR632_0.o)) 0 p633 q633
                cases e633
                have qi633 : (0 < (rd_L4 t629 x10_4).length) = True := eq_true (by omega)
                (try rw [show ((0 : Int)).toNat = 0 from rfl] at hx633_0)
                (try rw [Addr.add_zero'] at hx633_0)
                replace p633 := eq_true p633
                replace q633 := eq_true q633
                have p634 : 0 ≤ (x10_4 : Int) := zD
                have q634 : x10_4 < (t629.length : Int) := zD
                obtain ⟨ad634, A634_0, c634_0, e634, hx634_0, hl634_0, hi634_0⟩ := at_L4 (Kd.S_reads' HO_9.o).2.2 x10_4 p634 q634
                obtain rfl : ad632 = ad634 := (by injection e634)
                obtain ⟨ce634, hce634, hMe634, hcc634⟩ := Kd.S_get HO_9.o [] x10_4 p634 (by first | exact q634 | exact zD | (have e_ := (Kd.S_reads' HO_9.o).1; omega))
                obtain ⟨ve634_0, rfl, ge634_0⟩ := hMe634
                have hv634_0 := hcc634 0 _ rfl
                rw [Nat.add_zero, show ((Kd.slice 3 (Kd.int .i64))).sz = 1 from rfl, Nat.mul_one] at hv634_0
                replace hv634_0 := oI (hv634_0.symm.trans hx634_0)
                rw [hv634_0] at ge634_0
                have HL634_0 := aM (show Kd.R (Kd.int .i64) 3 _ _ _ _ (rd_L4 t629 x10_4) from ge634_0)
                clear hv634_0 ge634_0
                clear hcc634 hce634
                have HR634_0 := aM hi634_0
                have HC634_0 := aM hl634_0
                clear hi634_0 hl634_0
                replace p634 := eq_true p634
                replace q634 := eq_true q634
                have ea_ := oI (hx632_0.symm.trans hx634_0)
                injection ea_ with ea_ en_ ec_
                subst ea_
                subst ec_
                clear en_
                have p635 : 0 ≤ (0 : Int) := (by omega)
                have q635 : 0 < ((rd_L4 t629 x10_4).length : Int) := zD
                obtain ⟨ad635, e635, hx635_0⟩ := Kd.at_int (by repeat (first | (with_reducible exact HR634_0.o) | (with_reducible refine qA ?_ _) | (with_reducible refine qN ?_ _) | (with_reducible refine qD ?_) | exact HR634_0.o)) 0 p635 q635
                cases e635
                have qi635 : (0 < (rd_L4 t629 x10_4).length) = True := eq_true (by omega)
                (try rw [show ((0 : Int)).toNat = 0 from rfl] at hx635_0)
                (try rw [Addr.add_zero'] at hx635_0)
                replace p635 := eq_true p635
                replace q635 := eq_true q635
                refine start_ (n := 18) (S := fun w' => w'.cell? ⟨gb577, 0, none⟩ = some (.int .i64 t563) ∧ w'.cell? ⟨gb577, 1, none⟩ = some (.slice Ao12 t564.length co12) ∧ w'.cell? ⟨gb577, 2, none⟩ = some (.slice Ao13 t567.length co13) ∧ w'.cell? (ad632.add (x10_4).toNat) = some (.slice (some ad633) (rd_L4 t629 x10_4).length c632_0) ∧ w'.cell? ad633 = some (.int .i64 (rd (rd_L4 t629 x10_4) 0)) ∧ w'.cell? (ad632.add (x10_4).toNat) = some (.slice (some ad633) (rd_L4 t629 x10_4).length c632_0) ∧ w'.cell? ad633 = some (.int .i64 (rd (rd_L4 t629 x10_4) 0))) (ds := []) (bm 18 0) (by kernel_rfl) rfl (bm0 _) ⟨bc0 BK577, bc1 BK577, bc2 BK577, hx632_0, hx633_0, hx634_0, hx635_0⟩ (fun hK4 => ?_); refine with_tabW laws_FnPairs.tab18 laws_FnPairs.bits18 (fun HT_ HW_ => ?_)
                generalize wr.drew = w110 at HO_7 HO_9 HO_578001 HO_578002 HO_579001 HO_579002 HO_608001 HO_608002 BK577 BK578 BK607 HR625_0 HR627_0 HB HL632_0 HL634_0 HR632_0 HR634_0 hx632_0 hx633_0 hx634_0 hx635_0 hK4 ⊢
                refine pW 0 117 18 1 HT_ rfl rfl ?_
                refine pW 1 118 18 3 HT_ rfl rfl ?_
                refine pW 2 119 18 7 HT_ rfl rfl ?_
                refine tW 3 120 18 15 HT_ HW_ rfl rfl hK4 ?_
                refine pW 4 121 18 31 HT_ rfl rfl ?_
                refine tW 5 122 18 63 HT_ HW_ rfl rfl hK4 ?_
                refine pW 6 123 18 127 HT_ rfl rfl ?_
                refine pW 7 124 18 255 HT_ rfl rfl ?_
                refine pW 8 125 18 511 HT_ rfl rfl ?_
                refine pW 9 126 18 1023 HT_ rfl rfl ?_
                refine pW 10 127 18 2047 HT_ rfl rfl ?_
                refine pW 14 131 18 18431 HT_ rfl rfl ?_
                refine tW 11 128 18 20479 HT_ HW_ rfl rfl hK4 ?_
                refine pW 12 129 18 24575 HT_ rfl rfl ?_
                refine tW 13 130 18 32767 HT_ HW_ rfl rfl hK4 ?_
                refine tW 15 132 18 65535 HT_ HW_ rfl rfl hK4 ?_
                refine pW 16 133 18 131071 HT_ rfl rfl ?_
                refine pW 17 134 18 262143 HT_ rfl rfl ?_
                refine done_ (done_of HT_.o (by kernel_rfl)) ?_
                try clear hK4
                try go_wp2
                go_roundg k4
                case measure => have := HJ5.o; have := HK2.o; have := HJ85.o; have := HK4.o; omega
                case rel => exact ⟨(wrap64 (x10_4 + 1)), zF, H', ⟨by have := HJ5.o; have := HK2.o; have := HJ85.o; have := HK4.o; omega⟩, ⟨zS HO_7⟩, ⟨zS HO_9⟩, ⟨zR HO_578001⟩, ⟨zR HO_578002⟩, ⟨zR HO_579001⟩, ⟨zR HO_579002⟩, ⟨zR HO_608001⟩, ⟨zR HO_608002⟩, ⟨zK BK577⟩, ⟨zK BK578⟩, ⟨zK BK607⟩, ⟨by repeat (first | (with_reducible exact HR625_0.o) | (with_reducible refine qA ?_ _) | (with_reducible refine qN ?_ _) | (with_reducible refine qD ?_) | exact HR625_0.o)⟩, ⟨by repeat (first | (with_reducible exact HR627_0.o) | (with_reducible refine qA ?_ _) | (with_reducible refine qN ?_ _) | (with_reducible refine qD ?_) | exact HR627_0.o)⟩, ⟨zB HB⟩⟩
             ·rw [if_neg c104] at H
              have c104b0 : decide (x10_4 < (t629.length : Int)) = false := decide_eq_false c104
              clear c104
              have H' := aM H
              clear H
              obtain ⟨Ao111, co111, eo111⟩ := Kd.S_slice HO_9.o
              subst eo111
              go_wp2
              go_roundg k4
              case measure => have := HJ5.o; have := HK2.o; have := HJ85.o; have := HK4.o; omega
              case rel => exact ⟨(wrap64 (x8_2 + 1)), zF, H', ⟨by have := HJ5.o; have := HK2.o; have := HJ85.o; have := HK4.o; omega⟩, ⟨by (with_reducible repeat (first | apply Kd.S_alloc | apply Kd.S_drewN | apply Kd.S_drew)); exact Kd.S_mono HO_7.o (fun _ hk => trivial)⟩, ⟨zR HO_578001⟩, ⟨zR HO_578002⟩, ⟨zR HO_579001⟩, ⟨zR HO_579002⟩, ⟨zR HO_608001⟩, ⟨zR HO_608002⟩, ⟨zK BK577⟩, ⟨zK BK578⟩, ⟨zK BK607⟩, ⟨zB HB⟩⟩
       ·rw [if_neg c85] at H
        have c85b0 : decide (x8_2 < (t608.length : Int)) = false := decide_eq_false c85
        clear c85
        by_cases c112 : t579 = true
        ·subst c112
         have H1 : (some true) = some r := by rw [if_pos rfl] at H; exact H
         clear H
         have H := H1
         clear H1
         obtain rfl := oI H
         obtain ⟨Ao113, co113, eo113⟩ := Kd.S_slice HO_7.o
         subst eo113
         go_wp2
         go_ret
         exact ⟨zE, zB HB⟩
        ·replace c112 := Bool.eq_false_iff.mpr c112
         subst c112
         have H1 : ((impl_IsMachine.f k2 t563 t564 t567).bind fun t611 => (if t611 = true then ((impl_IsMachine.f k2 t570 t571 t574).bind fun t612 => (if t612 = true then ((impl_FirstTrouble.f k2 t563 t564 t567 t570 t571 t574).bind fun t613 => (some ((t613.length : Int) == 2))) else (some true))) else (some true))) = some r := by rw [if_neg (show ¬ (false = true) by decide)] at H; exact H
         clear H
         have H := H1
         clear H1
         obtain ⟨t611, A114, H⟩ := bindS H
         by_cases c115 : t611 = true
         ·subst c115
          have H1 : ((impl_IsMachine.f k2 t570 t571 t574).bind fun t612 => (if t612 = true then ((impl_FirstTrouble.f k2 t563 t564 t567 t570 t571 t574).bind fun t613 => (some ((t613.length : Int) == 2))) else (some true))) = some r := by rw [if_pos rfl] at H; exact H
          clear H
          have H := H1
          clear H1
          obtain ⟨t612, A116, H⟩ := bindS H
          by_cases c117 : t612 = true
          ·subst c117
           have H1 : ((impl_FirstTrouble.f k2 t563 t564 t567 t570 t571 t574).bind fun t613 => (some ((t613.length : Int) == 2))) = some r := by rw [if_pos rfl] at H; exact H
           clear H
           have H := H1
           clear H1
           obtain ⟨t613, A118, H⟩ := bindS H
           obtain rfl := oI H
           obtain ⟨Ao119, co119, eo119⟩ := Kd.S_slice HO_7.o
           subst eo119
           have hnb120 := NB577_578.o
           have hnc120 := NB578_577.o
           have hnb121 := NB577_607.o
           have hnc121 := NB607_577.o
           obtain ⟨z122_0, z122_1, z122_2, f122_0, f122_1, f122_2⟩ := bq3 BK577
           go_wp2_with (first | (go_at_call 10; (with_reducible refine (impl_IsMachine.calls k2 t563 _ _ t564 _ _ t567 true _ ?s1 ?s2 ?s3 ?s4 A114.o).mono ?_); (case s1 => exact cU (rQ HO_578001.o).2.2); (case s2 => exact (rQ HO_578001.o).2.1); (case s3 => exact cU (rQ HO_578002.o).2.2); (case s4 => exact (rQ HO_578002.o).2.1); rintro e w123 ⟨rfl, hb⟩; replace HO_7 := aM (Kd.S_below (zS HO_7) hb); replace HO_578001 := aM (rW (zR HO_578001) hb); replace HO_578002 := aM (rW (zR HO_578002) hb); replace HO_579001 := aM (rW (zR HO_579001) hb); replace HO_579002 := aM (rW (zR HO_579002) hb); replace HO_608001 := aM (rW (zR HO_608001) hb); replace HO_608002 := aM (rW (zR HO_608002) hb); replace BK577 := kB BK577 hb; replace BK578 := kB BK578 hb; replace BK607 := kB BK607 hb; replace HB := bS HB hb; (try clear hb); have hnb124 := NB578_607.o; have hnc124 := NB607_578.o; obtain ⟨z125_0, z125_1, z125_2, f125_0, f125_1, f125_2⟩ := bq3 BK578) | (go_at_call 10; (with_reducible refine (impl_IsMachine.calls k2 t570 _ _ t571 _ _ t574 true _ ?s1 ?s2 ?s3 ?s4 A116.o).mono ?_); (case s1 => exact cU (rQ HO_579001.o).2.2); (case s2 => exact (rQ HO_579001.o).2.1); (case s3 => exact cU (rQ HO_579002.o).2.2); (case s4 => exact (rQ HO_579002.o).2.1); rintro e w126 ⟨rfl, hb⟩; replace HO_7 := aM (Kd.S_below (zS HO_7) hb); replace HO_578001 := aM (rW (zR HO_578001) hb); replace HO_578002 := aM (rW (zR HO_578002) hb); replace HO_579001 := aM (rW (zR HO_579001) hb); replace HO_579002 := aM (rW (zR HO_579002) hb); replace HO_608001 := aM (rW (zR HO_608001) hb); replace HO_608002 := aM (rW (zR HO_608002) hb); replace BK577 := kB BK577 hb; replace BK578 := kB BK578 hb; replace BK607 := kB BK607 hb; replace HB := bS HB hb; (try clear hb); obtain ⟨z127_0, z127_1, z127_2, f127_0, f127_1, f127_2⟩ := bq3 BK577; obtain ⟨z128_0, z128_1, z128_2, f128_0, f128_1, f128_2⟩ := bq3 BK578) | (go_at_call 8; (with_reducible refine (impl_FirstTrouble.calls k2 t563 _ _ t564 _ _ t567 t570 _ _ t571 _ _ t574 t613 _ ?s1 ?s2 ?s3 ?s4 ?s5 ?s6 ?s7 ?s8 A118.o).mono ?_); (case s1 => exact cU (rQ HO_578001.o).2.2); (case s2 => exact (rQ HO_578001.o).2.1); (case s3 => exact cU (rQ HO_578002.o).2.2); (case s4 => exact (rQ HO_578002.o).2.1); (case s5 => exact cU (rQ HO_579001.o).2.2); (case s6 => exact (rQ HO_579001.o).2.1); (case s7 => exact cU (rQ HO_579002.o).2.2); (case s8 => exact (rQ HO_579002.o).2.1); rintro e w129 ⟨v614, rfl, ho0, hb⟩; replace HO_7 := aM (Kd.S_elder' (zS HO_7) (Kd.R_base ho0) hb); replace HO_578001 := aM (rW (zR HO_578001) hb); replace HO_578002 := aM (rW (zR HO_578002) hb); replace HO_579001 := aM (rW (zR HO_579001) hb); replace HO_579002 := aM (rW (zR HO_579002) hb); replace HO_608001 := aM (rW (zR HO_608001) hb); replace HO_608002 := aM (rW (zR HO_608002) hb); have HO615 := aM (rO ho0 (bZ (zB HB))); replace BK577 := kB BK577 hb; replace BK578 := kB BK578 hb; replace BK607 := kB BK607 hb; replace HB := bS HB hb; (try clear hb); (try clear ho0); obtain ⟨Ao130, co130, eo130⟩ := rL HO615.o; subst eo130))
           go_ret
           exact ⟨zE, zB HB⟩
          ·replace c117 := Bool.eq_false_iff.mpr c117
           subst c117
           have H1 : (some true) = some r := by rw [if_neg (show ¬ (false = true) by decide)] at H; exact H
           clear H
           have H := H1
           clear H1
           obtain rfl := oI H
           obtain ⟨Ao131, co131, eo131⟩ := Kd.S_slice HO_7.o
           subst eo131
           have hnb132 := NB577_578.o
           have hnc132 := NB578_577.o
           have hnb133 := NB577_607.o
           have hnc133 := NB607_577.o
           obtain ⟨z134_0, z134_1, z134_2, f134_0, f134_1, f134_2⟩ := bq3 BK577
           go_wp2_with (first | (go_at_call 10; (with_reducible refine (impl_IsMachine.calls k2 t563 _ _ t564 _ _ t567 true _ ?s1 ?s2 ?s3 ?s4 A114.o).mono ?_); (case s1 => exact cU (rQ HO_578001.o).2.2); (case s2 => exact (rQ HO_578001.o).2.1); (case s3 => exact cU (rQ HO_578002.o).2.2); (case s4 => exact (rQ HO_578002.o).2.1); rintro e w135 ⟨rfl, hb⟩; replace HO_7 := aM (Kd.S_below (zS HO_7) hb); replace HO_578001 := aM (rW (zR HO_578001) hb); replace HO_578002 := aM (rW (zR HO_578002) hb); replace HO_579001 := aM (rW (zR HO_579001) hb); replace HO_579002 := aM (rW (zR HO_579002) hb); replace HO_608001 := aM (rW (zR HO_608001) hb); replace HO_608002 := aM (rW (zR HO_608002) hb); replace BK577 := kB BK577 hb; replace BK578 := kB BK578 hb; replace BK607 := kB BK607 hb; replace HB := bS HB hb; (try clear hb); have hnb136 := NB578_607.o; have hnc136 := NB607_578.o; obtain ⟨z137_0, z137_1, z137_2, f137_0, f137_1, f137_2⟩ := bq3 BK578) | (go_at_call 10; (with_reducible refine (impl_IsMachine.calls k2 t570 _ _ t571 _ _ t574 false _ ?s1 ?s2 ?s3 ?s4 A116.o).mono ?_); (case s1 => exact cU (rQ HO_579001.o).2.2); (case s2 => exact (rQ HO_579001.o).2.1); (case s3 => exact cU (rQ HO_579002.o).2.2); (case s4 => exact (rQ HO_579002.o).2.1); rintro e w138 ⟨rfl, hb⟩; replace HO_7 := aM (Kd.S_below (zS HO_7) hb); replace HO_578001 := aM (rW (zR HO_578001) hb); replace HO_578002 := aM (rW (zR HO_578002) hb); replace HO_579001 := aM (rW (zR HO_579001) hb); replace HO_579002 := aM (rW (zR HO_579002) hb); replace HO_608001 := aM (rW (zR HO_608001) hb); replace HO_608002 := aM (rW (zR HO_608002) hb); replace BK577 := kB BK577 hb; replace BK578 := kB BK578 hb; replace BK607 := kB BK607 hb; replace HB := bS HB hb; (try clear hb)))
           go_ret
           exact ⟨zE, zB HB⟩
         ·replace c115 := Bool.eq_false_iff.mpr c115
          subst c115
          have H1 : (some true) = some r := by rw [if_neg (show ¬ (false = true) by decide)] at H; exact H
          clear H
          have H := H1
          clear H1
          obtain rfl := oI H
          obtain ⟨Ao139, co139, eo139⟩ := Kd.S_slice HO_7.o
          subst eo139
          have hnb140 := NB577_578.o
          have hnc140 := NB578_577.o
          have hnb141 := NB577_607.o
          have hnc141 := NB607_577.o
          obtain ⟨z142_0, z142_1, z142_2, f142_0, f142_1, f142_2⟩ := bq3 BK577
          go_wp2_with (first | (go_at_call 10; (with_reducible refine (impl_IsMachine.calls k2 t563 _ _ t564 _ _ t567 false _ ?s1 ?s2 ?s3 ?s4 A114.o).mono ?_); (case s1 => exact cU (rQ HO_578001.o).2.2); (case s2 => exact (rQ HO_578001.o).2.1); (case s3 => exact cU (rQ HO_578002.o).2.2); (case s4 => exact (rQ HO_578002.o).2.1); rintro e w143 ⟨rfl, hb⟩; replace HO_7 := aM (Kd.S_below (zS HO_7) hb); replace HO_578001 := aM (rW (zR HO_578001) hb); replace HO_578002 := aM (rW (zR HO_578002) hb); replace HO_579001 := aM (rW (zR HO_579001) hb); replace HO_579002 := aM (rW (zR HO_579002) hb); replace HO_608001 := aM (rW (zR HO_608001) hb); replace HO_608002 := aM (rW (zR HO_608002) hb); replace BK577 := kB BK577 hb; replace BK578 := kB BK578 hb; replace BK607 := kB BK607 hb; replace HB := bS HB hb; (try clear hb)))
          go_ret
          exact ⟨zE, zB HB⟩

/-- THE ONE PURE STATEMENT of laws_FnPairs: yours. -/
def laws_FnPairs.Pure : Prop := ∀ (l0 : List Int), l0.length ≤ maxLen → l0.length * 1 ≤ 140737488351232 → (∀ x ∈ l0, (Lit.int .u8 x).wf = true) → ∃ k, laws_FnPairs.f k l0 = some true
theorem laws_FnPairs.walk (P : laws_FnPairs.Pure) (a0 : Option Addr) (len0 cap0 : Nat) (z0 : List Int) (w : World) (w0 : (a0 = none ∧ len0 = 0 ∧ cap0 = 0 ∧ z0 = []) ∨ ∃ x, a0 = some x ∧ len0 ≤ cap0 ∧ cap0 ≤ maxLen ∧ z0.length = cap0 ∧ (∀ i, i < z0.length → w.cell? (x.add i) = some (.int .u8 (z0.getD i 0))) ∧ ∀ n ∈ z0, (Lit.int .u8 n).wf = true) (y0 : len0 * 1 ≤ 140737488351232) :
  Calls Try.prog 3 #[.slice a0 len0 cap0] w fun e w' => e = .returned (.bool true) ∧ Below w.heap.size w w' := by
 obtain ⟨l0, rfl, hr0, hm0, hw0, hc0⟩ := ReadsInt.ofRowC w0
 obtain ⟨k, h⟩ := P l0 hm0 y0 hw0
 refine (laws_FnPairs.calls k _ _ l0 true w (Kd.C_of_reads (d := (0 : Int)) (h1 := fun _ => rfl) hr0) hc0 rfl h).mono ?_
 rintro e w' ⟨rfl, hd⟩
 exact ⟨rfl, hd⟩

end Go.Proofs.Ytfibjclnaeocbaa.PFnPairs
