-- WRITTEN by pp.py, this session's own wrapper around the print; not trusted: Lean checks it
import Derived.Test.YtmenijbpglknbaaPFnExactFollowsx0
import Derived.Test.YtmenijbpglknbaaPFnExactFollowsx4
import Derived.Test.YtmenijbpglknbaaPFnExactFollowsx5
namespace Go.Proofs.Ytmenijbpglknbaa.PFnExactFollows
open Go.RowKit Go.Proofs.Ytmenijbpglknbaa.Hw Go.Proofs.YtmenijbpglknbaaW.PrintWords Go.Proofs.YtmenijbpglknbaaW.PrintLast Go.Proofs.YtmenijbpglknbaaW.PrintMore
attribute [local go_sem] max2_int min2_int max_two min_two max_three min_three max_four min_four   -- for this text's walks alone
set_option linter.unusedVariables false
set_option linter.unusedSimpArgs false
set_option linter.unusedSectionVars false

/-! ### spec_FollowPairs: function 18 -/
mutual
def spec_FollowPairs.j0 : Nat → List (List Int) → Bool → Int → List Bool → List (S64) → Int → List Bool → List (S64) → Option ((List (List Int)))
 | 0, _, _, _, _, _, _, _, _ => none
 | k + 1, x5, x23, x212000, x212001, x212002, x213000, x213001, x213002 => if x23 = true then (some x5) else (if x5.length < 5864062014805 then (spec_FollowPairs.l0 k (x5 ++ [(([0, 0] : List Int))]) 0 x212000 x212001 x212002 x213000 x213001 x213002) else (none))
def spec_FollowPairs.l0 : Nat → List (List Int) → Int → Int → List Bool → List (S64) → Int → List Bool → List (S64) → Option ((List (List Int)))
 | 0, _, _, _, _, _, _, _, _ => none
 | k + 1, x5, x6, x212000, x212001, x212002, x213000, x213001, x213002 => if x6 < (x5.length : Int) then (if 0 ≤ x6 then (if 0 < ((rd_L4 x5 x6).length : Int) then (if 1 < ((rd_L4 x5 x6).length : Int) then (spec_FollowPairs.l1 k x5 x6 (rd (rd_L4 x5 x6) 0) (rd (rd_L4 x5 x6) 1) 1 x212000 x212001 x212002 x213000 x213001 x213002) else (none)) else (none)) else (none)) else (some x5)
def spec_FollowPairs.l1 : Nat → List (List Int) → Int → Int → Int → Int → Int → List Bool → List (S64) → Int → List Bool → List (S64) → Option ((List (List Int)))
 | 0, _, _, _, _, _, _, _, _, _, _, _ => none
 | k + 1, x5, x6, x7, x8, x9, x212000, x212001, x212002, x213000, x213001, x213002 => if x9 ≥ 0 then ((spec_MovesFrom.f k x212000 x212001 x212002 x7 true).bind fun t228 => (if x9 = 0 then ((spec_MovesFrom.f k x213000 x213001 x213002 x8 false).bind fun t231 => (spec_FollowPairs.j3 k x5 x6 x7 x8 x9 t231 x212000 x212001 x212002 x213000 x213001 x213002)) else (spec_FollowPairs.j3 k x5 x6 x7 x8 x9 t228 x212000 x212001 x212002 x213000 x213001 x213002))) else (spec_FollowPairs.l0 k x5 (wrap64 (x6 + 1)) x212000 x212001 x212002 x213000 x213001 x213002)
def spec_FollowPairs.j3 : Nat → List (List Int) → Int → Int → Int → Int → List Int → Int → List Bool → List (S64) → Int → List Bool → List (S64) → Option ((List (List Int)))
 | 0, _, _, _, _, _, _, _, _, _, _, _, _ => none
 | k + 1, x5, x6, x7, x8, x9, x10, x212000, x212001, x212002, x213000, x213001, x213002 => spec_FollowPairs.l2 k x5 x6 x7 x8 x9 x10 0 x212000 x212001 x212002 x213000 x213001 x213002
def spec_FollowPairs.l2 : Nat → List (List Int) → Int → Int → Int → Int → List Int → Int → Int → List Bool → List (S64) → Int → List Bool → List (S64) → Option ((List (List Int)))
 | 0, _, _, _, _, _, _, _, _, _, _, _, _, _ => none
 | k + 1, x5, x6, x7, x8, x9, x10, x11, x212000, x212001, x212002, x213000, x213001, x213002 => if x11 < (x10.length : Int) then (if 0 ≤ x11 then ((spec_MoveOf.f k x212000 x212001 x212002 x7 (x9 == 1) (rd x10 x11)).bind fun t235 => ((spec_MoveOf.f k x213000 x213001 x213002 x8 (x9 == 1) (rd x10 x11)).bind fun t237 => (if t235 < 0 then (spec_FollowPairs.j5 k x5 x6 x7 x8 x9 x10 x11 t235 t237 true x212000 x212001 x212002 x213000 x213001 x213002) else (spec_FollowPairs.j5 k x5 x6 x7 x8 x9 x10 x11 t235 t237 (decide (t237 < 0)) x212000 x212001 x212002 x213000 x213001 x213002)))) else (none)) else (spec_FollowPairs.l1 k x5 x6 x7 x8 (wrap64 (x9 - 1)) x212000 x212001 x212002 x213000 x213001 x213002)
def spec_FollowPairs.j5 : Nat → List (List Int) → Int → Int → Int → Int → List Int → Int → Int → Int → Bool → Int → List Bool → List (S64) → Int → List Bool → List (S64) → Option ((List (List Int)))
 | 0, _, _, _, _, _, _, _, _, _, _, _, _, _, _, _, _ => none
 | k + 1, x5, x6, x7, x8, x9, x10, x11, x12, x13, x88, x212000, x212001, x212002, x213000, x213001, x213002 => if x88 = true then (spec_FollowPairs.l2 k x5 x6 x7 x8 x9 x10 (wrap64 (x11 + 1)) x212000 x212001 x212002 x213000 x213001 x213002) else (if 0 ≤ x12 then (if x12 < (x212002.length : Int) then (if 0 ≤ x13 then (if x13 < (x213002.length : Int) then ((some (([(rd_T64 x212002 x12).f3, (rd_T64 x213002 x13).f3] : List Int) : List Int)).bind fun y240 => ((spec_l14Has.f k x5 y240).bind fun t243 => (if t243 = true then (spec_FollowPairs.l2 k x5 x6 x7 x8 x9 x10 (wrap64 (x11 + 1)) x212000 x212001 x212002 x213000 x213001 x213002) else (if x5.length < 5864062014805 then (spec_FollowPairs.l2 k (x5 ++ [y240]) x6 x7 x8 x9 x10 (wrap64 (x11 + 1)) x212000 x212001 x212002 x213000 x213001 x213002) else (none))))) else (none)) else (none)) else (none)) else (none))
end
def spec_FollowPairs.f (k : Nat) (a0_0 : Int) (l0_1 : List Bool) (l0_2 : List (S64)) (a1_0 : Int) (l1_1 : List Bool) (l1_2 : List (S64)) : Option ((List (List Int))) := (some (([] : List (List Int)) : List (List Int))).bind fun y213 => ((spec_IsMachine.f k a0_0 l0_1 l0_2).bind fun t216 => (if t216 = true then ((spec_IsMachine.f k a1_0 l1_1 l1_2).bind fun t217 => (spec_FollowPairs.j0 k y213 (!t217) a0_0 l0_1 l0_2 a1_0 l1_1 l1_2)) else (spec_FollowPairs.j0 k y213 true a0_0 l0_1 l0_2 a1_0 l1_1 l1_2)))
theorem spec_FollowPairs.mono_l : ∀ k, (∀ y0 y1 y2 y3 y4 y5 y6 y7, LeO (spec_FollowPairs.j0 k y0 y1 y2 y3 y4 y5 y6 y7) (spec_FollowPairs.j0 (k + 1) y0 y1 y2 y3 y4 y5 y6 y7)) ∧ (∀ y0 y1 y2 y3 y4 y5 y6 y7, LeO (spec_FollowPairs.l0 k y0 y1 y2 y3 y4 y5 y6 y7) (spec_FollowPairs.l0 (k + 1) y0 y1 y2 y3 y4 y5 y6 y7)) ∧ (∀ y0 y1 y2 y3 y4 y5 y6 y7 y8 y9 y10, LeO (spec_FollowPairs.l1 k y0 y1 y2 y3 y4 y5 y6 y7 y8 y9 y10) (spec_FollowPairs.l1 (k + 1) y0 y1 y2 y3 y4 y5 y6 y7 y8 y9 y10)) ∧ (∀ y0 y1 y2 y3 y4 y5 y6 y7 y8 y9 y10 y11, LeO (spec_FollowPairs.j3 k y0 y1 y2 y3 y4 y5 y6 y7 y8 y9 y10 y11) (spec_FollowPairs.j3 (k + 1) y0 y1 y2 y3 y4 y5 y6 y7 y8 y9 y10 y11)) ∧ (∀ y0 y1 y2 y3 y4 y5 y6 y7 y8 y9 y10 y11 y12, LeO (spec_FollowPairs.l2 k y0 y1 y2 y3 y4 y5 y6 y7 y8 y9 y10 y11 y12) (spec_FollowPairs.l2 (k + 1) y0 y1 y2 y3 y4 y5 y6 y7 y8 y9 y10 y11 y12)) ∧ (∀ y0 y1 y2 y3 y4 y5 y6 y7 y8 y9 y10 y11 y12 y13 y14 y15, LeO (spec_FollowPairs.j5 k y0 y1 y2 y3 y4 y5 y6 y7 y8 y9 y10 y11 y12 y13 y14 y15) (spec_FollowPairs.j5 (k + 1) y0 y1 y2 y3 y4 y5 y6 y7 y8 y9 y10 y11 y12 y13 y14 y15))
 | 0 => ⟨fun _ _ _ _ _ _ _ _ r h => by simp [spec_FollowPairs.j0] at h, fun _ _ _ _ _ _ _ _ r h => by simp [spec_FollowPairs.l0] at h, fun _ _ _ _ _ _ _ _ _ _ _ r h => by simp [spec_FollowPairs.l1] at h, fun _ _ _ _ _ _ _ _ _ _ _ _ r h => by simp [spec_FollowPairs.j3] at h, fun _ _ _ _ _ _ _ _ _ _ _ _ _ r h => by simp [spec_FollowPairs.l2] at h, fun _ _ _ _ _ _ _ _ _ _ _ _ _ _ _ _ r h => by simp [spec_FollowPairs.j5] at h⟩
 | k + 1 => by
  obtain ⟨ih0, ih1, ih2, ih3, ih4, ih5⟩ := spec_FollowPairs.mono_l k
  refine ⟨?_, ?_, ?_, ?_, ?_, ?_⟩
  ·intro y0 y1 y2 y3 y4 y5 y6 y7
   unfold spec_FollowPairs.j0
   repeat' first
   | (with_reducible exact ih0 _ _ _ _ _ _ _ _)
   | (with_reducible exact ih1 _ _ _ _ _ _ _ _)
   | (with_reducible exact ih2 _ _ _ _ _ _ _ _ _ _ _)
   | (with_reducible exact ih3 _ _ _ _ _ _ _ _ _ _ _ _)
   | (with_reducible exact ih4 _ _ _ _ _ _ _ _ _ _ _ _ _)
   | (with_reducible exact ih5 _ _ _ _ _ _ _ _ _ _ _ _ _ _ _ _)
   | (with_reducible exact spec_IsMachine.mono _ _ _ _)
   | (with_reducible exact spec_MoveOf.mono _ _ _ _ _ _ _)
   | (with_reducible exact spec_MovesFrom.mono _ _ _ _ _ _)
   | (with_reducible exact spec_l14Has.mono _ _ _)
   | (with_reducible exact LeO.refl _)
   | (with_reducible exact LeO.none _)
   | (with_reducible refine LeO.ite ?_ ?_)
   | (with_reducible refine LeO.bind ?_ (fun _ => ?_))
   | exact ih0 _ _ _ _ _ _ _ _
   | exact ih1 _ _ _ _ _ _ _ _
   | exact ih2 _ _ _ _ _ _ _ _ _ _ _
   | exact ih3 _ _ _ _ _ _ _ _ _ _ _ _
   | exact ih4 _ _ _ _ _ _ _ _ _ _ _ _ _
   | exact ih5 _ _ _ _ _ _ _ _ _ _ _ _ _ _ _ _
   | exact spec_IsMachine.mono _ _ _ _
   | exact spec_MoveOf.mono _ _ _ _ _ _ _
   | exact spec_MovesFrom.mono _ _ _ _ _ _
   | exact spec_l14Has.mono _ _ _
   | exact LeO.none _
   | refine LeO.ite ?_ ?_
   | refine LeO.bind ?_ (fun _ => ?_)
  ·intro y0 y1 y2 y3 y4 y5 y6 y7
   unfold spec_FollowPairs.l0
   repeat' first
   | (with_reducible exact ih0 _ _ _ _ _ _ _ _)
   | (with_reducible exact ih1 _ _ _ _ _ _ _ _)
   | (with_reducible exact ih2 _ _ _ _ _ _ _ _ _ _ _)
   | (with_reducible exact ih3 _ _ _ _ _ _ _ _ _ _ _ _)
   | (with_reducible exact ih4 _ _ _ _ _ _ _ _ _ _ _ _ _)
   | (with_reducible exact ih5 _ _ _ _ _ _ _ _ _ _ _ _ _ _ _ _)
   | (with_reducible exact spec_IsMachine.mono _ _ _ _)
   | (with_reducible exact spec_MoveOf.mono _ _ _ _ _ _ _)
   | (with_reducible exact spec_MovesFrom.mono _ _ _ _ _ _)
   | (with_reducible exact spec_l14Has.mono _ _ _)
   | (with_reducible exact LeO.refl _)
   | (with_reducible exact LeO.none _)
   | (with_reducible refine LeO.ite ?_ ?_)
   | (with_reducible refine LeO.bind ?_ (fun _ => ?_))
   | exact ih0 _ _ _ _ _ _ _ _
   | exact ih1 _ _ _ _ _ _ _ _
   | exact ih2 _ _ _ _ _ _ _ _ _ _ _
   | exact ih3 _ _ _ _ _ _ _ _ _ _ _ _
   | exact ih4 _ _ _ _ _ _ _ _ _ _ _ _ _
   | exact ih5 _ _ _ _ _ _ _ _ _ _ _ _ _ _ _ _
   | exact spec_IsMachine.mono _ _ _ _
   | exact spec_MoveOf.mono _ _ _ _ _ _ _
   | exact spec_MovesFrom.mono _ _ _ _ _ _
   | exact spec_l14Has.mono _ _ _
   | exact LeO.none _
   | refine LeO.ite ?_ ?_
   | refine LeO.bind ?_ (fun _ => ?_)
  ·intro y0 y1 y2 y3 y4 y5 y6 y7 y8 y9 y10
   unfold spec_FollowPairs.l1
   repeat' first
   | (with_reducible exact ih0 _ _ _ _ _ _ _ _)
   | (with_reducible exact ih1 _ _ _ _ _ _ _ _)
   | (with_reducible exact ih2 _ _ _ _ _ _ _ _ _ _ _)
   | (with_reducible exact ih3 _ _ _ _ _ _ _ _ _ _ _ _)
   | (with_reducible exact ih4 _ _ _ _ _ _ _ _ _ _ _ _ _)
   | (with_reducible exact ih5 _ _ _ _ _ _ _ _ _ _ _ _ _ _ _ _)
   | (with_reducible exact spec_IsMachine.mono _ _ _ _)
   | (with_reducible exact spec_MoveOf.mono _ _ _ _ _ _ _)
   | (with_reducible exact spec_MovesFrom.mono _ _ _ _ _ _)
   | (with_reducible exact spec_l14Has.mono _ _ _)
   | (with_reducible exact LeO.refl _)
   | (with_reducible exact LeO.none _)
   | (with_reducible refine LeO.ite ?_ ?_)
   | (with_reducible refine LeO.bind ?_ (fun _ => ?_))
   | exact ih0 _ _ _ _ _ _ _ _
   | exact ih1 _ _ _ _ _ _ _ _
   | exact ih2 _ _ _ _ _ _ _ _ _ _ _
   | exact ih3 _ _ _ _ _ _ _ _ _ _ _ _
   | exact ih4 _ _ _ _ _ _ _ _ _ _ _ _ _
   | exact ih5 _ _ _ _ _ _ _ _ _ _ _ _ _ _ _ _
   | exact spec_IsMachine.mono _ _ _ _
   | exact spec_MoveOf.mono _ _ _ _ _ _ _
   | exact spec_MovesFrom.mono _ _ _ _ _ _
   | exact spec_l14Has.mono _ _ _
   | exact LeO.none _
   | refine LeO.ite ?_ ?_
   | refine LeO.bind ?_ (fun _ => ?_)
  ·intro y0 y1 y2 y3 y4 y5 y6 y7 y8 y9 y10 y11
   unfold spec_FollowPairs.j3
   repeat' first
   | (with_reducible exact ih0 _ _ _ _ _ _ _ _)
   | (with_reducible exact ih1 _ _ _ _ _ _ _ _)
   | (with_reducible exact ih2 _ _ _ _ _ _ _ _ _ _ _)
   | (with_reducible exact ih3 _ _ _ _ _ _ _ _ _ _ _ _)
   | (with_reducible exact ih4 _ _ _ _ _ _ _ _ _ _ _ _ _)
   | (with_reducible exact ih5 _ _ _ _ _ _ _ _ _ _ _ _ _ _ _ _)
   | (with_reducible exact spec_IsMachine.mono _ _ _ _)
   | (with_reducible exact spec_MoveOf.mono _ _ _ _ _ _ _)
   | (with_reducible exact spec_MovesFrom.mono _ _ _ _ _ _)
   | (with_reducible exact spec_l14Has.mono _ _ _)
   | (with_reducible exact LeO.refl _)
   | (with_reducible exact LeO.none _)
   | (with_reducible refine LeO.ite ?_ ?_)
   | (with_reducible refine LeO.bind ?_ (fun _ => ?_))
   | exact ih0 _ _ _ _ _ _ _ _
   | exact ih1 _ _ _ _ _ _ _ _
   | exact ih2 _ _ _ _ _ _ _ _ _ _ _
   | exact ih3 _ _ _ _ _ _ _ _ _ _ _ _
   | exact ih4 _ _ _ _ _ _ _ _ _ _ _ _ _
   | exact ih5 _ _ _ _ _ _ _ _ _ _ _ _ _ _ _ _
   | exact spec_IsMachine.mono _ _ _ _
   | exact spec_MoveOf.mono _ _ _ _ _ _ _
   | exact spec_MovesFrom.mono _ _ _ _ _ _
   | exact spec_l14Has.mono _ _ _
   | exact LeO.none _
   | refine LeO.ite ?_ ?_
   | refine LeO.bind ?_ (fun _ => ?_)
  ·intro y0 y1 y2 y3 y4 y5 y6 y7 y8 y9 y10 y11 y12
   unfold spec_FollowPairs.l2
   repeat' first
   | (with_reducible exact ih0 _ _ _ _ _ _ _ _)
   | (with_reducible exact ih1 _ _ _ _ _ _ _ _)
   | (with_reducible exact ih2 _ _ _ _ _ _ _ _ _ _ _)
   | (with_reducible exact ih3 _ _ _ _ _ _ _ _ _ _ _ _)
   | (with_reducible exact ih4 _ _ _ _ _ _ _ _ _ _ _ _ _)
   | (with_reducible exact ih5 _ _ _ _ _ _ _ _ _ _ _ _ _ _ _ _)
   | (with_reducible exact spec_IsMachine.mono _ _ _ _)
   | (with_reducible exact spec_MoveOf.mono _ _ _ _ _ _ _)
   | (with_reducible exact spec_MovesFrom.mono _ _ _ _ _ _)
   | (with_reducible exact spec_l14Has.mono _ _ _)
   | (with_reducible exact LeO.refl _)
   | (with_reducible exact LeO.none _)
   | (with_reducible refine LeO.ite ?_ ?_)
   | (with_reducible refine LeO.bind ?_ (fun _ => ?_))
   | exact ih0 _ _ _ _ _ _ _ _
   | exact ih1 _ _ _ _ _ _ _ _
   | exact ih2 _ _ _ _ _ _ _ _ _ _ _
   | exact ih3 _ _ _ _ _ _ _ _ _ _ _ _
   | exact ih4 _ _ _ _ _ _ _ _ _ _ _ _ _
   | exact ih5 _ _ _ _ _ _ _ _ _ _ _ _ _ _ _ _
   | exact spec_IsMachine.mono _ _ _ _
   | exact spec_MoveOf.mono _ _ _ _ _ _ _
   | exact spec_MovesFrom.mono _ _ _ _ _ _
   | exact spec_l14Has.mono _ _ _
   | exact LeO.none _
   | refine LeO.ite ?_ ?_
   | refine LeO.bind ?_ (fun _ => ?_)
  ·intro y0 y1 y2 y3 y4 y5 y6 y7 y8 y9 y10 y11 y12 y13 y14 y15
   unfold spec_FollowPairs.j5
   repeat' first
   | (with_reducible exact ih0 _ _ _ _ _ _ _ _)
   | (with_reducible exact ih1 _ _ _ _ _ _ _ _)
   | (with_reducible exact ih2 _ _ _ _ _ _ _ _ _ _ _)
   | (with_reducible exact ih3 _ _ _ _ _ _ _ _ _ _ _ _)
   | (with_reducible exact ih4 _ _ _ _ _ _ _ _ _ _ _ _ _)
   | (with_reducible exact ih5 _ _ _ _ _ _ _ _ _ _ _ _ _ _ _ _)
   | (with_reducible exact spec_IsMachine.mono _ _ _ _)
   | (with_reducible exact spec_MoveOf.mono _ _ _ _ _ _ _)
   | (with_reducible exact spec_MovesFrom.mono _ _ _ _ _ _)
   | (with_reducible exact spec_l14Has.mono _ _ _)
   | (with_reducible exact LeO.refl _)
   | (with_reducible exact LeO.none _)
   | (with_reducible refine LeO.ite ?_ ?_)
   | (with_reducible refine LeO.bind ?_ (fun _ => ?_))
   | exact ih0 _ _ _ _ _ _ _ _
   | exact ih1 _ _ _ _ _ _ _ _
   | exact ih2 _ _ _ _ _ _ _ _ _ _ _
   | exact ih3 _ _ _ _ _ _ _ _ _ _ _ _
   | exact ih4 _ _ _ _ _ _ _ _ _ _ _ _ _
   | exact ih5 _ _ _ _ _ _ _ _ _ _ _ _ _ _ _ _
   | exact spec_IsMachine.mono _ _ _ _
   | exact spec_MoveOf.mono _ _ _ _ _ _ _
   | exact spec_MovesFrom.mono _ _ _ _ _ _
   | exact spec_l14Has.mono _ _ _
   | exact LeO.none _
   | refine LeO.ite ?_ ?_
   | refine LeO.bind ?_ (fun _ => ?_)
theorem spec_FollowPairs.mono : ∀ a0 a1 a2 a3 a4 a5 k, LeO (spec_FollowPairs.f k a0 a1 a2 a3 a4 a5) (spec_FollowPairs.f (k + 1) a0 a1 a2 a3 a4 a5) := by
 intro a0 a1 a2 a3 a4 a5 k
 obtain ⟨ih0, ih1, ih2, ih3, ih4, ih5⟩ := spec_FollowPairs.mono_l k
 unfold spec_FollowPairs.f
 repeat' first
   | (with_reducible exact ih0 _ _ _ _ _ _ _ _)
   | (with_reducible exact ih1 _ _ _ _ _ _ _ _)
   | (with_reducible exact ih2 _ _ _ _ _ _ _ _ _ _ _)
   | (with_reducible exact ih3 _ _ _ _ _ _ _ _ _ _ _ _)
   | (with_reducible exact ih4 _ _ _ _ _ _ _ _ _ _ _ _ _)
   | (with_reducible exact ih5 _ _ _ _ _ _ _ _ _ _ _ _ _ _ _ _)
   | (with_reducible exact spec_IsMachine.mono _ _ _ _)
   | (with_reducible exact spec_MoveOf.mono _ _ _ _ _ _ _)
   | (with_reducible exact spec_MovesFrom.mono _ _ _ _ _ _)
   | (with_reducible exact spec_l14Has.mono _ _ _)
   | (with_reducible exact LeO.refl _)
   | (with_reducible exact LeO.none _)
   | (with_reducible refine LeO.ite ?_ ?_)
   | (with_reducible refine LeO.bind ?_ (fun _ => ?_))
   | exact ih0 _ _ _ _ _ _ _ _
   | exact ih1 _ _ _ _ _ _ _ _
   | exact ih2 _ _ _ _ _ _ _ _ _ _ _
   | exact ih3 _ _ _ _ _ _ _ _ _ _ _ _
   | exact ih4 _ _ _ _ _ _ _ _ _ _ _ _ _
   | exact ih5 _ _ _ _ _ _ _ _ _ _ _ _ _ _ _ _
   | exact spec_IsMachine.mono _ _ _ _
   | exact spec_MoveOf.mono _ _ _ _ _ _ _
   | exact spec_MovesFrom.mono _ _ _ _ _ _
   | exact spec_l14Has.mono _ _ _
   | exact LeO.none _
   | refine LeO.ite ?_ ?_
   | refine LeO.bind ?_ (fun _ => ?_)
def spec_FollowPairs.T19 : Bool × List (List Nat × List Nat) := (true, [([], []), ([], []), ([], []), ([2], [2]), ([], []), ([], []), ([4, 5], [4, 5]), ([6], [6]), ([0, 1, 3, 7], [0, 1, 3, 7]), ([8, 8, 0, 1, 2, 3, 4, 5, 6, 7, 8], [8])])
def spec_FollowPairs.B19 : List Nat := [0, 0, 0, 4, 0, 0, 48, 112, 255, 511]
theorem spec_FollowPairs.tab19 : rtab .any (opsOf Try.f18 19) = spec_FollowPairs.T19 := by kernel_rfl
theorem spec_FollowPairs.bits19 : waitsOk spec_FollowPairs.T19.2 spec_FollowPairs.B19 = true := by kernel_rfl
def spec_FollowPairs.T20 : Bool × List (List Nat × List Nat) := (true, [([], []), ([], []), ([], []), ([2], [2]), ([], []), ([], []), ([4, 5], [4, 5]), ([6], [6]), ([0, 1, 3, 7], [0, 1, 3, 7]), ([8, 8, 0, 1, 2, 3, 4, 5, 6, 7, 8], [8])])
def spec_FollowPairs.B20 : List Nat := [0, 0, 0, 4, 0, 0, 48, 112, 255, 511]
theorem spec_FollowPairs.tab20 : rtab .any (opsOf Try.f18 20) = spec_FollowPairs.T20 := by kernel_rfl
theorem spec_FollowPairs.bits20 : waitsOk spec_FollowPairs.T20.2 spec_FollowPairs.B20 = true := by kernel_rfl
def spec_FollowPairs.T22 : Bool × List (List Nat × List Nat) := (true, [([], []), ([0], [0]), ([], []), ([1, 2], [1, 2]), ([3], [3]), ([4], [4]), ([], []), ([6], [6]), ([], []), ([7, 8], [7, 8]), ([9], [9]), ([10], [10]), ([5, 11], [5, 11]), ([12, 0, 1, 2, 3, 4, 5, 6, 7, 8, 9, 10, 11, 12], [12])])
def spec_FollowPairs.B22 : List Nat := [0, 1, 0, 7, 15, 31, 0, 64, 0, 448, 960, 1984, 4095, 8191]
theorem spec_FollowPairs.tab22 : rtab .any (opsOf Try.f18 22) = spec_FollowPairs.T22 := by kernel_rfl
theorem spec_FollowPairs.bits22 : waitsOk spec_FollowPairs.T22.2 spec_FollowPairs.B22 = true := by kernel_rfl
set_option maxHeartbeats 8000000 in
set_option maxRecDepth 100000 in
theorem spec_FollowPairs.calls (k : Nat) (a0_0 : Int) (A0_1 : Option Addr) (c0_1 : Nat) (l0_1 : List Bool) (A0_2 : Option Addr) (c0_2 : Nat) (l0_2 : List (S64)) (a1_0 : Int) (A1_1 : Option Addr) (c1_1 : Nat) (l1_1 : List Bool) (A1_2 : Option Addr) (c1_2 : Nat) (l1_2 : List (S64)) (r : List (List Int)) (w : World) (hr0_1 : Kd.C Kd.bool w A0_1 l0_1.length l0_1) (hc0_1 : l0_1.length ≤ c0_1) (hr0_2 : Kd.C k64 w A0_2 l0_2.length l0_2) (hc0_2 : l0_2.length ≤ c0_2) (hr1_1 : Kd.C Kd.bool w A1_1 l1_1.length l1_1) (hc1_1 : l1_1.length ≤ c1_1) (hr1_2 : Kd.C k64 w A1_2 l1_2.length l1_2) (hc1_2 : l1_2.length ≤ c1_2) (h : spec_FollowPairs.f k a0_0 l0_1 l0_2 a1_0 l1_1 l1_2 = some r) :
  Calls Try.prog 18 #[.agg #[.int .i64 a0_0, .slice A0_1 l0_1.length c0_1, .slice A0_2 l0_2.length c0_2], .agg #[.int .i64 a1_0, .slice A1_1 l1_1.length c1_1, .slice A1_2 l1_2.length c1_2]] w fun e w' => ∃ v0_ : Value, e = .returned (v0_) ∧ Kd.S (Kd.slice 3 (Kd.int .i64)) 38 w' w.heap.size (fun _ => True) v0_ r ∧ Below w.heap.size w w' := by
 have hu31 := Try.underlying31
 have HR0_1 := Aside0.mk hr0_1
 have HC0_1 := Aside0.mk hc0_1
 clear hr0_1 hc0_1
 have HR0_2 := Aside0.mk hr0_2
 have HC0_2 := Aside0.mk hc0_2
 clear hr0_2 hc0_2
 have HR1_1 := Aside0.mk hr1_1
 have HC1_1 := Aside0.mk hc1_1
 clear hr1_1 hc1_1
 have HR1_2 := Aside0.mk hr1_2
 have HC1_2 := Aside0.mk hc1_2
 clear hr1_2 hc1_2
 have HB := Aside0.mk (Below.refl w.heap.size w)
 have H : ((some (([] : List (List Int)) : List (List Int))).bind fun y213 => ((spec_IsMachine.f k a0_0 l0_1 l0_2).bind fun t216 => (if t216 = true then ((spec_IsMachine.f k a1_0 l1_1 l1_2).bind fun t217 => (spec_FollowPairs.j0 k y213 (!t217) a0_0 l0_1 l0_2 a1_0 l1_1 l1_2)) else (spec_FollowPairs.j0 k y213 true a0_0 l0_1 l0_2 a1_0 l1_1 l1_2)))) = some r := h
 clear h
 obtain ⟨y213, hy213⟩ : ∃ y_ : List (List Int), y_ = (([] : List (List Int))) := ⟨_, rfl⟩
 replace H : ((spec_IsMachine.f k a0_0 l0_1 l0_2).bind fun t216 => (if t216 = true then ((spec_IsMachine.f k a1_0 l1_1 l1_2).bind fun t217 => (spec_FollowPairs.j0 k y213 (!t217) a0_0 l0_1 l0_2 a1_0 l1_1 l1_2)) else (spec_FollowPairs.j0 k y213 true a0_0 l0_1 l0_2 a1_0 l1_1 l1_2))) = some r := by first | (rw [hy213]; with_reducible exact H) | (have H2_ := (Option.bind_some _ _).symm.trans H; rw [hy213]; with_reducible exact H2_) | (have H2_ := (Option.bind_some _ _).symm.trans H; with_reducible exact H2_) | with_reducible exact H | (rw [hy213]; exact H) | exact H
 have Ny213 := Aside0.mk hy213
 clear hy213
 have HC3 := Aside0.mk H
 clear H
 go_enter Try.func18, Try.ntmps18
 go_upto_region 2 with (first | ((with_reducible refine gate_dst (N := 2) rfl ?_); refine box_event ?hg (N := 2) ?hd (cs := #[.int .i64 a0_0, .slice A0_1 l0_1.length c0_1, .slice A0_2 l0_2.length c0_2]) (t := 31) ?hr ?_; (case hd => rfl); (case hg => rfl); (case hr => first | (go_simp; done) | (go_simp; rfl)); intro gb211 hg w4 hbox hb; have n0_ := bS HB hb; have n1_ := Aside0.mk (hbox); have n2_ := gS HB hg; have n3_ := gS HB hg; clear HB; have HB := n0_; have BK211 := n1_; have GW211 := n2_; have GE211 := n3_; clear n0_ n1_ n2_ n3_; clear hb hbox hg) | ((with_reducible refine gate_dst (N := 3) rfl ?_); refine box_event ?hg (N := 3) ?hd (cs := #[.int .i64 a1_0, .slice A1_1 l1_1.length c1_1, .slice A1_2 l1_2.length c1_2]) (t := 31) ?hr ?_; (case hd => rfl); (case hg => rfl); (case hr => first | (go_simp; done) | (go_simp; rfl)); intro gb212 hg w5 hbox hb; have n0_ := kB BK211 hb; have n1_ := bS HB hb; have n2_ := Aside0.mk (hbox); have n3_ := gS HB hg; have n4_ := gS HB hg; have n5_ := Aside0.mk ((by rw [hg]; exact Nat.ne_of_lt (blk_lt (g := gb211) (o := .cells #[.int .i64 a0_0, .slice A0_1 l0_1.length c0_1, .slice A0_2 l0_2.length c0_2] 31 (0, 0)) (zK BK211)) : gb211 ≠ gb212)); have n6_ := Aside0.mk ((by rw [hg]; exact Nat.ne_of_gt (blk_lt (g := gb211) (o := .cells #[.int .i64 a0_0, .slice A0_1 l0_1.length c0_1, .slice A0_2 l0_2.length c0_2] 31 (0, 0)) (zK BK211)) : gb212 ≠ gb211)); clear BK211; clear HB; have BK211 := n0_; have HB := n1_; have BK212 := n2_; have GW212 := n3_; have GE212 := n4_; have NB211_212 := n5_; have NB212_211 := n6_; clear n0_ n1_ n2_ n3_ n4_ n5_ n6_; clear hb hbox hg) | ((with_reducible refine gate_dst (N := 15) rfl ?_); refine Kd.S_lit (Kd.slice 3 (Kd.int .i64)) _ 38 ?hg (N := 15) ?hd (xs := ([] : List (List Int))) (inner := []) (ok := fun _ => True) (okp := fun _ => True) ?hr ?hp (fun _ hk => hk) trivial (Below.refl _ _) (Nat.le_refl _) (by simp) ?_; (case hd => rfl); (case hg => rfl); (case hr => first | (go_simp; done) | (go_simp; rfl)); (case hp => exact (Reps.none _ _)); intro v214 w6 ho7 hb hg_ hnew_; clear hg_ hnew_; (first | rw [← Ny213.out] at ho7 | (simp only [Int.reduceToNat] at ho7; rw [← Ny213.out] at ho7)); have n0_ := Aside0.mk (Kd.S_lower ho7 (below_size (zB HB))); have n1_ := kB BK211 hb; have n2_ := kB BK212 hb; have n3_ := bS HB hb; clear BK211; clear BK212; clear HB; have HO215 := n0_; have BK211 := n1_; have BK212 := n2_; have HB := n3_; clear n0_ n1_ n2_ n3_; clear hb ho7))
 (try simp only [Act.put, List.setIfInBounds_toArray, List.set_cons_zero, List.set_cons_succ])
 go_cut [23] (fun v23 wc => ∃ (kq : Nat) (x23_2 : Bool), v23 = .bool x23_2 ∧ Aside0 (spec_FollowPairs.j0 kq y213 x23_2 a0_0 l0_1 l0_2 a1_0 l1_1 l1_2 = some r) ∧ Aside0 (kq ≤ k) ∧ Aside0 (Kd.S (Kd.slice 3 (Kd.int .i64)) 38 wc w.heap.size (fun _ => True) v214 y213) ∧ Aside0 (wc.heap[gb211]? = some (.cells #[.int .i64 a0_0, (.slice A0_1 l0_1.length c0_1), (.slice A0_2 l0_2.length c0_2)] 31 (0, 0))) ∧ Aside0 (wc.heap[gb212]? = some (.cells #[.int .i64 a1_0, (.slice A1_1 l1_1.length c1_1), (.slice A1_2 l1_2.length c1_2)] 31 (0, 0))) ∧ Aside0 (Below w.heap.size w wc))
 case first =>
  have H := HC3.out
  clear HC3
  replace H := Option.bind_eq_some_iff.mp H
  obtain ⟨t216, A80, H⟩ := H
  replace H : (if t216 = true then ((spec_IsMachine.f k a1_0 l1_1 l1_2).bind fun t217 => (spec_FollowPairs.j0 k y213 (!t217) a0_0 l0_1 l0_2 a1_0 l1_1 l1_2)) else (spec_FollowPairs.j0 k y213 true a0_0 l0_1 l0_2 a1_0 l1_1 l1_2)) = some r := H
  have A8 := Aside0.mk A80
  clear A80
  by_cases c9 : t216 = true
  ·subst c9
   have H1 : ((spec_IsMachine.f k a1_0 l1_1 l1_2).bind fun t217 => (spec_FollowPairs.j0 k y213 (!t217) a0_0 l0_1 l0_2 a1_0 l1_1 l1_2)) = some r := by rw [if_pos rfl] at H; exact H
   clear H
   have H := H1
   clear H1
   replace H := Option.bind_eq_some_iff.mp H
   obtain ⟨t217, A100, H⟩ := H
   replace H : (spec_FollowPairs.j0 k y213 (!t217) a0_0 l0_1 l0_2 a1_0 l1_1 l1_2) = some r := H
   have A10 := Aside0.mk A100
   clear A100
   have H' := Aside0.mk H
   clear H
   have hnb11 := NB211_212.out
   have hnc11 := NB212_211.out
   have hcz12_0 := bc0 BK211
   have hcz12_1 := bc1 BK211
   have hcz12_2 := bc2 BK211
   have hfz12_0 := bf BK211 0
   have hfz12_1 := bf BK211 1
   have hfz12_2 := bf BK211 2
   go_wp2_with (first | ((with_reducible refine gate_callee (f := 36) rfl ?_); refine goesL_ (some 17) rfl rfl Try.func36 (by kernel_rfl) rfl #[.agg #[.int .i64 a0_0, .slice A0_1 l0_1.length c0_1, .slice A0_2 l0_2.length c0_2]] rfl zG ?_; (with_reducible refine (spec_IsMachine.calls k a0_0 _ _ l0_1 _ _ l0_2 true _ ?side1 ?side2 ?side3 ?side4 A8.out).mono ?_); (case side1 => exact cS HR0_1 HB); (case side2 => exact HC0_1.out); (case side3 => exact cS HR0_2 HB); (case side4 => exact HC0_2.out); rintro e w13 ⟨rfl, hb⟩; refine ⟨_, rfl, ?_⟩; have n0_ := Aside0.mk (Kd.S_below (zS HO215) hb); have n1_ := kB BK211 hb; have n2_ := kB BK212 hb; have n3_ := bS HB hb; clear HO215; clear BK211; clear BK212; clear HB; have HO215 := n0_; have BK211 := n1_; have BK212 := n2_; have HB := n3_; clear n0_ n1_ n2_ n3_; (try clear hb); have hcz14_0 := bc0 BK212; have hcz14_1 := bc1 BK212; have hcz14_2 := bc2 BK212; have hfz14_0 := bf BK212 0; have hfz14_1 := bf BK212 1; have hfz14_2 := bf BK212 2) | (go_at_call 36; (with_reducible refine (spec_IsMachine.calls k a1_0 _ _ l1_1 _ _ l1_2 t217 _ ?side1 ?side2 ?side3 ?side4 A10.out).mono ?_); (case side1 => exact cS HR1_1 HB); (case side2 => exact HC1_1.out); (case side3 => exact cS HR1_2 HB); (case side4 => exact HC1_2.out); rintro e w15 ⟨rfl, hb⟩; have n0_ := Aside0.mk (Kd.S_below (zS HO215) hb); have n1_ := kB BK211 hb; have n2_ := kB BK212 hb; have n3_ := bS HB hb; clear HO215; clear BK211; clear BK212; clear HB; have HO215 := n0_; have BK211 := n1_; have BK212 := n2_; have HB := n3_; clear n0_ n1_ n2_ n3_; (try clear hb)))
   go_meet
   case rel => exact ⟨_, (!t217), zF, H', ⟨by first | omega | exact Nat.le_refl _⟩, ⟨zS HO215⟩, ⟨zK BK211⟩, ⟨zK BK212⟩, ⟨zB HB⟩⟩
  ·replace c9 := Bool.eq_false_iff.mpr c9
   subst c9
   have H1 : (spec_FollowPairs.j0 k y213 true a0_0 l0_1 l0_2 a1_0 l1_1 l1_2) = some r := by rw [if_neg (show ¬ (false = true) by decide)] at H; exact H
   clear H
   have H := H1
   clear H1
   have H' := Aside0.mk H
   clear H
   have hnb16 := NB211_212.out
   have hnc16 := NB212_211.out
   have hcz17_0 := bc0 BK211
   have hcz17_1 := bc1 BK211
   have hcz17_2 := bc2 BK211
   have hfz17_0 := bf BK211 0
   have hfz17_1 := bf BK211 1
   have hfz17_2 := bf BK211 2
   go_wp2_with (first | ((with_reducible refine gate_callee (f := 36) rfl ?_); refine goesL_ (some 17) rfl rfl Try.func36 (by kernel_rfl) rfl #[.agg #[.int .i64 a0_0, .slice A0_1 l0_1.length c0_1, .slice A0_2 l0_2.length c0_2]] rfl zG ?_; (with_reducible refine (spec_IsMachine.calls k a0_0 _ _ l0_1 _ _ l0_2 false _ ?side1 ?side2 ?side3 ?side4 A8.out).mono ?_); (case side1 => exact cS HR0_1 HB); (case side2 => exact HC0_1.out); (case side3 => exact cS HR0_2 HB); (case side4 => exact HC0_2.out); rintro e w18 ⟨rfl, hb⟩; refine ⟨_, rfl, ?_⟩; have n0_ := Aside0.mk (Kd.S_below (zS HO215) hb); have n1_ := kB BK211 hb; have n2_ := kB BK212 hb; have n3_ := bS HB hb; clear HO215; clear BK211; clear BK212; clear HB; have HO215 := n0_; have BK211 := n1_; have BK212 := n2_; have HB := n3_; clear n0_ n1_ n2_ n3_; (try clear hb)))
   go_meet
   case rel => exact ⟨_, (true), zF, H', ⟨by first | omega | exact Nat.le_refl _⟩, ⟨zS HO215⟩, ⟨zK BK211⟩, ⟨zK BK212⟩, ⟨zB HB⟩⟩
 case rest =>
  clear HC3
  try clear c1
  try clear p2
  try clear c3
  try clear c9
  try clear c11
  try clear c16
  try clear c18
  try clear hcz12_0
  try clear hcz12_1
  try clear hcz12_2
  try clear hcz14_0
  try clear hcz14_1
  try clear hcz14_2
  try clear hcz17_0
  try clear hcz17_1
  try clear hcz17_2
  try clear hfz12_0
  try clear hfz12_1
  try clear hfz12_2
  try clear hfz14_0
  try clear hfz14_1
  try clear hfz14_2
  try clear hfz17_0
  try clear hfz17_1
  try clear hfz17_2
  obtain ⟨kq, x23_2, rfl, HA, HJ2, HO_5, BK211, BK212, HB⟩ := hcut
  cases kq with
  | zero => exact absurd HA.out (by simp [spec_FollowPairs.j0])
  | succ kj2 =>
   have H := HA.out
   clear HA
   simp only [spec_FollowPairs.j0] at H
   by_cases c19 : x23_2 = true
   ·subst c19
    have H1 : (some y213) = some r := by rw [if_pos rfl] at H; exact H
    clear H
    have H := H1
    clear H1
    obtain rfl := Option.some.inj H
    go_wp2
    go_ret
    exact ⟨_, by first | rfl | (simp [errW_none, errW_some] <;> rfl) | (simp [*, errW_none, errW_some] <;> rfl), by (with_reducible repeat (first | apply Kd.S_alloc | apply Kd.S_drewN | apply Kd.S_drew)); exact HO_5.out, by repeat (first | (with_reducible first | exact HB.out | apply below_alloc | apply pw_below_drewN | apply below_drew1 | refine below_set ?_ GE211.out | refine below_set ?_ GE212.out) | exact HB.out)⟩
   ·replace c19 := Bool.eq_false_iff.mpr c19
    subst c19
    have H1 : (if y213.length < 5864062014805 then (spec_FollowPairs.l0 kj2 (y213 ++ [(([0, 0] : List Int))]) 0 a0_0 l0_1 l0_2 a1_0 l1_1 l1_2) else (none)) = some r := by rw [if_neg (show ¬ (false = true) by decide)] at H; exact H
    clear H
    have H := H1
    clear H1
    obtain ⟨y218, hy218⟩ : ∃ y_ : List Int, y_ = (([0, 0] : List Int)) := ⟨_, rfl⟩
    replace H : (if y213.length < 5864062014805 then (spec_FollowPairs.l0 kj2 (y213 ++ [y218]) 0 a0_0 l0_1 l0_2 a1_0 l1_1 l1_2) else (none)) = some r := by first | (rw [hy218]; with_reducible exact H) | (have H2_ := (Option.bind_some _ _).symm.trans H; rw [hy218]; with_reducible exact H2_) | (have H2_ := (Option.bind_some _ _).symm.trans H; with_reducible exact H2_) | with_reducible exact H | (rw [hy218]; exact H) | exact H
    have Ny218 := Aside0.mk hy218
    clear hy218
    by_cases c20 : y213.length < 5864062014805
    ·rw [if_pos c20] at H
     have LMc20 := Aside0.mk c20
     clear c20
     obtain ⟨y221, hy221⟩ : ∃ y_ : List (List Int), y_ = (y213 ++ [y218]) := ⟨_, rfl⟩
     replace H : (spec_FollowPairs.l0 kj2 y221 0 a0_0 l0_1 l0_2 a1_0 l1_1 l1_2) = some r := by first | (rw [hy221]; with_reducible exact H) | (have H2_ := (Option.bind_some _ _).symm.trans H; rw [hy221]; with_reducible exact H2_) | (have H2_ := (Option.bind_some _ _).symm.trans H; with_reducible exact H2_) | with_reducible exact H | (rw [hy221]; exact H) | exact H
     have Ny221 := Aside0.mk hy221
     clear hy221
     have H' := Aside0.mk H
     clear H
     go_wp2_with (first | ((with_reducible refine gate_dst (N := 26) rfl ?_); refine Kd.R_lit (Kd.int .i64) _ 3 ?hg (N := 26) ?hd (xs := ([0, 0] : List Int)) (inner := [.int .i64 0, .int .i64 0]) (ok := fun _ => True) (okp := fun _ => True) ?hr ?hp (fun _ hk => hk) trivial (Below.refl _ _) (Nat.le_refl _) (by simp) ?_; (case hd => rfl); (case hg => rfl); (case hr => first | (go_simp; done) | (go_simp; rfl)); (case hp => exact (Reps.one (show Kd.M (Kd.int .i64) _ _ _ 0 [.int .i64 0] from rfl) (Reps.one (show Kd.M (Kd.int .i64) _ _ _ 0 [.int .i64 0] from rfl) (Reps.none _ _)))); intro v219 w21 ho22 hb hg_ hnew_; clear hg_ hnew_; (first | rw [← Ny218.out] at ho22 | (simp only [Int.reduceToNat] at ho22; rw [← Ny218.out] at ho22)); have n0_ := Aside0.mk (Kd.S_elder' (zS HO_5) (Kd.R_base ho22) hb); have n1_ := Aside0.mk (Kd.R_lower ho22 (below_size (zB HB))); have n2_ := kB BK211 hb; have n3_ := kB BK212 hb; have n4_ := bS HB hb; clear HO_5; clear BK211; clear BK212; clear HB; have HO_5 := n0_; have HO220 := n1_; have BK211 := n2_; have BK212 := n3_; have HB := n4_; clear n0_ n1_ n2_ n3_ n4_; clear hb ho22; obtain ⟨Ao24, co24, eo24⟩ := Kd.R_slice HO220.out; subst eo24) | ((with_reducible refine gate_builtin (b := .append) (xs := #[.tmp 25, .tmp 27]) rfl ?_); at_builtin; refine Kd.S_append (Kd.slice 3 (Kd.int .i64)) (w0 := w) w.heap.size rfl (.tmp 25) (.tmp 27) 27 38 (.slice none 0 0) 24 rfl Try.underlying27 info38 rfl (by decide) (by omega) v214 y213 y218 [.slice Ao24 y218.length co24] (fun _ => True) (fun k_ => some k_ = (.slice Ao24 y218.length co24 : Value).ownBlock) rfl rfl ?aP (fun k_ hk_ => ((Kd.R_mono (ok' := fun k_ => ((fun _ => True)) k_ ∧ some k_ ≠ (v214 : Value).ownBlock) (Kd.R_apart' (HO220.out) (Kd.S_typed HO_5.out) (by decide)) (fun k_ hk => ⟨trivial, hk.2⟩))).1 k_ hk_.symm) ?aF ?aO ?aB ?aS ?aL ?_; (case aP => exact Kd.M_row (Kd.R_mono (Kd.R_tight rfl (Kd.R_mono (ok' := fun k_ => ((fun _ => True)) k_ ∧ some k_ ≠ (v214 : Value).ownBlock) (Kd.R_apart' (HO220.out) (Kd.S_typed HO_5.out) (by decide)) (fun k_ hk => ⟨trivial, hk.2⟩))) (fun _ h_ => h_))); (case aB => exact (zB HB)); (case aF => exact (fun _ _ => trivial)); (case aO => exact (by (with_reducible repeat (first | apply Kd.S_alloc | apply Kd.S_drewN | apply Kd.S_drew)); exact Kd.S_mono HO_5.out (fun k_ hk => ⟨trivial, fun e_ => hk.2 e_⟩))); (case aS => exact (below_size (zB HB))); (case aL => have := LMc20.out; omega); intro v222 w23 ho hb hg hat; rw [← Ny221.out] at ho; have n0_ := Aside0.mk (blk_grown (g := gb211) (o := .cells #[.int .i64 a0_0, .slice A0_1 l0_1.length c0_1, .slice A0_2 l0_2.length c0_2] 31 (0, 0)) (zK BK211) hg (Kd.S_ne HO_5.out BK211.out (by decide))); have n1_ := Aside0.mk (blk_grown (g := gb212) (o := .cells #[.int .i64 a1_0, .slice A1_1 l1_1.length c1_1, .slice A1_2 l1_2.length c1_2] 31 (0, 0)) (zK BK212) hg (Kd.S_ne HO_5.out BK212.out (by decide))); have n2_ := Aside0.mk (hb); have n3_ := Aside0.mk (ho); clear BK211; clear BK212; clear HB; clear HO_5; clear HO220; have BK211 := n0_; have BK212 := n1_; have HB := n2_; have HO223 := n3_; clear n0_ n1_ n2_ n3_; clear ho hb hg hat))
     go_loopg [5, 6] kj2 (fun kq v5 v6 w' => ∃ (x5_2 : List (List Int)) (x6_2 : Int), v6 = .int .i64 x6_2 ∧ Aside0 (spec_FollowPairs.l0 kq x5_2 x6_2 a0_0 l0_1 l0_2 a1_0 l1_1 l1_2 = some r) ∧ Aside0 (kq ≤ kj2) ∧ Aside0 (Kd.S (Kd.slice 3 (Kd.int .i64)) 38 w' w.heap.size (fun _ => True) v5 x5_2) ∧ Aside0 (w'.heap[gb211]? = some (.cells #[.int .i64 a0_0, (.slice A0_1 l0_1.length c0_1), (.slice A0_2 l0_2.length c0_2)] 31 (0, 0))) ∧ Aside0 (w'.heap[gb212]? = some (.cells #[.int .i64 a1_0, (.slice A1_1 l1_1.length c1_1), (.slice A1_2 l1_2.length c1_2)] 31 (0, 0))) ∧ Aside0 (Below w.heap.size w w'))
     case atStart => exact ⟨(y221), (0), zF, H', ⟨Nat.le_refl _⟩, ⟨zS HO223⟩, ⟨zK BK211⟩, ⟨zK BK212⟩, ⟨zB HB⟩⟩
     case round =>
      clear H'
      try clear c1
      try clear c2
      try clear p2
      try clear c3
      try clear c9
      try clear c11
      try clear c16
      try clear c18
      try clear c19
      try clear c20
      try clear hcz12_0
      try clear hcz12_1
      try clear hcz12_2
      try clear hcz14_0
      try clear hcz14_1
      try clear hcz14_2
      try clear hcz17_0
      try clear hcz17_1
      try clear hcz17_2
      try clear hfz12_0
      try clear hfz12_1
      try clear hfz12_2
      try clear hfz14_0
      try clear hfz14_1
      try clear hfz14_2
      try clear hfz17_0
      try clear hfz17_1
      try clear hfz17_2
      try clear p2
      obtain ⟨x5_2, x6_2, rfl, HA, HK2, HO_5, BK211, BK212, HB⟩ := hrel
      cases gk with
      | zero => exact absurd HA.out (by simp [spec_FollowPairs.l0])
      | succ k2 =>
       have H := HA.out
       clear HA
       simp only [spec_FollowPairs.l0] at H
       by_cases c25 : x6_2 < (x5_2.length : Int)
       ·rw [if_pos c25] at H
        have c25b0 : decide (x6_2 < (x5_2.length : Int)) = true := decide_eq_true c25
        clear c25
        by_cases c26 : 0 ≤ x6_2
        ·rw [if_pos c26] at H
         have c26b0 : decide (0 ≤ x6_2) = true := decide_eq_true c26
         clear c26
         by_cases c27 : 0 < ((rd_L4 x5_2 x6_2).length : Int)
         ·rw [if_pos c27] at H
          have c27b0 : decide (0 < ((rd_L4 x5_2 x6_2).length : Int)) = true := decide_eq_true c27
          have c27b1 : decide (0 < (rd_L4 x5_2 x6_2).length) = true := decide_eq_true (by omega)
          clear c27
          by_cases c28 : 1 < ((rd_L4 x5_2 x6_2).length : Int)
          ·rw [if_pos c28] at H
           have c28b0 : decide (1 < ((rd_L4 x5_2 x6_2).length : Int)) = true := decide_eq_true c28
           have c28b1 : decide (1 < (rd_L4 x5_2 x6_2).length) = true := decide_eq_true (by omega)
           clear c28
           have H' := Aside0.mk H
           clear H
           obtain ⟨Ao29, co29, eo29⟩ := Kd.S_slice HO_5.out
           subst eo29
           have p224 : 0 ≤ (x6_2 : Int) := of_decide_eq_true (by first | (with_reducible assumption) | assumption)
           have q224 : x6_2 < (x5_2.length : Int) := of_decide_eq_true (by first | (with_reducible assumption) | assumption)
           obtain ⟨ad224, A224_0, c224_0, e224, hx224_0, hl224_0, hi224_0⟩ := at_L4 (Kd.S_reads' HO_5.out).2.2 x6_2 p224 q224
           cases e224
           obtain ⟨ce224, hce224, hMe224, hcc224⟩ := Kd.S_get HO_5.out [] x6_2 p224 (by first | exact q224 | exact of_decide_eq_true (by first | (with_reducible assumption) | assumption) | (have e_ := (Kd.S_reads' HO_5.out).1; omega))
           obtain ⟨ve224_0, rfl, ge224_0⟩ := hMe224
           have hv224_0 := hcc224 0 _ rfl
           rw [Nat.add_zero, show ((Kd.slice 3 (Kd.int .i64))).sz = 1 from rfl, Nat.mul_one] at hv224_0
           replace hv224_0 := Option.some.inj (hv224_0.symm.trans hx224_0)
           rw [hv224_0] at ge224_0
           have HL224_0 := Aside0.mk (show Kd.R (Kd.int .i64) 3 _ _ _ _ (rd_L4 x5_2 x6_2) from ge224_0)
           clear hv224_0 ge224_0
           clear hcc224 hce224
           have HR224_0 := Aside0.mk hi224_0
           have HC224_0 := Aside0.mk hl224_0
           clear hi224_0 hl224_0
           replace p224 := eq_true p224
           replace q224 := eq_true q224
           have p225 : 0 ≤ (0 : Int) := (by omega)
           have q225 : 0 < ((rd_L4 x5_2 x6_2).length : Int) := of_decide_eq_true (by first | (with_reducible assumption) | assumption)
           obtain ⟨ad225, e225, hx225_0⟩ := Kd.at_int (by repeat (first | (with_reducible exact HR224_0.out) | (with_reducible refine Kd.C_alloc ?_ _) | (with_reducible refine Kd.C_drewN ?_ _) | (with_reducible refine Kd.C_drew ?_) | exact HR224_0.out)) 0 p225 q225
           cases e225
           have qi225 : (0 < (rd_L4 x5_2 x6_2).length) = True := eq_true (by omega)
           (try rw [show ((0 : Int)).toNat = 0 from rfl] at hx225_0)
           (try rw [Addr.add_zero'] at hx225_0)
           replace p225 := eq_true p225
           replace q225 := eq_true q225
           have p226 : 0 ≤ (x6_2 : Int) := of_decide_eq_true (by first | (with_reducible assumption) | assumption)
           have q226 : x6_2 < (x5_2.length : Int) := of_decide_eq_true (by first | (with_reducible assumption) | assumption)
           obtain ⟨ad226, A226_0, c226_0, e226, hx226_0, hl226_0, hi226_0⟩ := at_L4 (Kd.S_reads' HO_5.out).2.2 x6_2 p226 q226
           obtain rfl : ad224 = ad226 := (by injection e226)
           obtain ⟨ce226, hce226, hMe226, hcc226⟩ := Kd.S_get HO_5.out [] x6_2 p226 (by first | exact q226 | exact of_decide_eq_true (by first | (with_reducible assumption) | assumption) | (have e_ := (Kd.S_reads' HO_5.out).1; omega))
           obtain ⟨ve226_0, rfl, ge226_0⟩ := hMe226
           have hv226_0 := hcc226 0 _ rfl
           rw [Nat.add_zero, show ((Kd.slice 3 (Kd.int .i64))).sz = 1 from rfl, Nat.mul_one] at hv226_0
           replace hv226_0 := Option.some.inj (hv226_0.symm.trans hx226_0)
           rw [hv226_0] at ge226_0
           have HL226_0 := Aside0.mk (show Kd.R (Kd.int .i64) 3 _ _ _ _ (rd_L4 x5_2 x6_2) from ge226_0)
           clear hv226_0 ge226_0
           clear hcc226 hce226
           have HR226_0 := Aside0.mk hi226_0
           have HC226_0 := Aside0.mk hl226_0
           clear hi226_0 hl226_0
           replace p226 := eq_true p226
           replace q226 := eq_true q226
           have ea_ := Option.some.inj (hx224_0.symm.trans hx226_0)
           injection ea_ with ea_ en_ ec_
           subst ea_
           subst ec_
           clear en_
           have p227 : 0 ≤ (1 : Int) := (by omega)
           have q227 : 1 < ((rd_L4 x5_2 x6_2).length : Int) := of_decide_eq_true (by first | (with_reducible assumption) | assumption)
           obtain ⟨ad227, e227, hx227_0⟩ := Kd.at_int (by repeat (first | (with_reducible exact HR226_0.out) | (with_reducible refine Kd.C_alloc ?_ _) | (with_reducible refine Kd.C_drewN ?_ _) | (with_reducible refine Kd.C_drew ?_) | exact HR226_0.out)) 1 p227 q227
           cases e227
           (try simp only [show (1 : Int).toNat = 1 from rfl, Nat.reduceMul, Nat.reduceEqDiff, Go.Addr.add, ↓reduceIte] at hx227_0)
           have qi227 : (1 < (rd_L4 x5_2 x6_2).length) = True := eq_true (by omega)
           (try rw [show ((1 : Int)).toNat = 1 from rfl] at hx227_0)
           replace p227 := eq_true p227
           replace q227 := eq_true q227
           go_wp2
           go_loopg [5, 9] k2 (fun kq v5 v9 w' => ∃ (x5_3 : List (List Int)) (x9_3 : Int), v9 = .int .i64 x9_3 ∧ Aside0 (spec_FollowPairs.l1 kq x5_3 x6_2 (rd (rd_L4 x5_2 x6_2) 0) (rd (rd_L4 x5_2 x6_2) 1) x9_3 a0_0 l0_1 l0_2 a1_0 l1_1 l1_2 = some r) ∧ Aside0 (kq ≤ k2) ∧ Aside0 (Kd.S (Kd.slice 3 (Kd.int .i64)) 38 w' w.heap.size (fun _ => True) v5 x5_3) ∧ Aside0 (w'.heap[gb211]? = some (.cells #[.int .i64 a0_0, (.slice A0_1 l0_1.length c0_1), (.slice A0_2 l0_2.length c0_2)] 31 (0, 0))) ∧ Aside0 (w'.heap[gb212]? = some (.cells #[.int .i64 a1_0, (.slice A1_1 l1_1.length c1_1), (.slice A1_2 l1_2.length c1_2)] 31 (0, 0))) ∧ Aside0 (Below w.heap.size w w'))
           case atStart => exact ⟨(x5_2), (1), zF, H', ⟨Nat.le_refl _⟩, ⟨zS HO_5⟩, ⟨zK BK211⟩, ⟨zK BK212⟩, ⟨zB HB⟩⟩
           case round =>
            clear H'
            try clear c1
            try clear c2
            try clear p2
            try clear q2
            try clear hx2
            try clear qi2
            try clear c3
            try clear c9
            try clear c11
            try clear c16
            try clear c18
            try clear c19
            try clear c20
            try clear c22
            try clear p22
            try clear q22
            try clear hx22
            try clear qi22
            try clear c25
            try clear c25b0
            try clear c26
            try clear c26b0
            try clear c27
            try clear c27b0
            try clear c27b1
            try clear c28
            try clear c28b0
            try clear c28b1
            try clear hcz12_0
            try clear hcz12_1
            try clear hcz12_2
            try clear hcz14_0
            try clear hcz14_1
            try clear hcz14_2
            try clear hcz17_0
            try clear hcz17_1
            try clear hcz17_2
            try clear hfz12_0
            try clear hfz12_1
            try clear hfz12_2
            try clear hfz14_0
            try clear hfz14_1
            try clear hfz14_2
            try clear hfz17_0
            try clear hfz17_1
            try clear hfz17_2
            try clear hx224_0
            try clear hx225_0
            try clear hx226_0
            try clear hx227_0
            try clear p2
            try clear p224
            try clear p225
            try clear p226
            try clear p227
            try clear q224
            try clear q225
            try clear q226
            try clear q227
            obtain ⟨x5_3, x9_3, rfl, HA, HK3, HO_5, BK211, BK212, HB⟩ := hrel
            cases gk with
            | zero => exact absurd HA.out (by simp [spec_FollowPairs.l1])
            | succ k3 =>
             have H := HA.out
             clear HA
             simp only [spec_FollowPairs.l1] at H
             by_cases c30 : x9_3 ≥ 0
             ·rw [if_pos c30] at H
              have c30b0 : decide (0 ≤ x9_3) = true := decide_eq_true c30
              clear c30
              replace H := Option.bind_eq_some_iff.mp H
              obtain ⟨t228, A310, H⟩ := H
              replace H : (if x9_3 = 0 then ((spec_MovesFrom.f k3 a1_0 l1_1 l1_2 (rd (rd_L4 x5_2 x6_2) 1) false).bind fun t231 => (spec_FollowPairs.j3 k3 x5_3 x6_2 (rd (rd_L4 x5_2 x6_2) 0) (rd (rd_L4 x5_2 x6_2) 1) x9_3 t231 a0_0 l0_1 l0_2 a1_0 l1_1 l1_2)) else (spec_FollowPairs.j3 k3 x5_3 x6_2 (rd (rd_L4 x5_2 x6_2) 0) (rd (rd_L4 x5_2 x6_2) 1) x9_3 t228 a0_0 l0_1 l0_2 a1_0 l1_1 l1_2)) = some r := H
              have A31 := Aside0.mk A310
              clear A310
              have HC32 := Aside0.mk H
              clear H
              have hnb33 := NB211_212.out
              have hnc33 := NB212_211.out
              have hcz34_0 := bc0 BK211
              have hcz34_1 := bc1 BK211
              have hcz34_2 := bc2 BK211
              have hfz34_0 := bf BK211 0
              have hfz34_1 := bf BK211 1
              have hfz34_2 := bf BK211 2
              go_upto_if 55 with (first | ((with_reducible refine gate_callee (f := 49) rfl ?_); refine goesL_ (some 53) rfl rfl Try.func49 (by kernel_rfl) rfl #[.agg #[.int .i64 a0_0, .slice A0_1 l0_1.length c0_1, .slice A0_2 l0_2.length c0_2], .int .i64 (rd (rd_L4 x5_2 x6_2) 0), .bool true] rfl zG ?_; (with_reducible refine (spec_MovesFrom.calls k3 a0_0 _ _ l0_1 _ _ l0_2 (rd (rd_L4 x5_2 x6_2) 0) true t228 _ ?side1 ?side2 ?side3 ?side4 A31.out).mono ?_); (case side1 => exact cS HR0_1 HB); (case side2 => exact HC0_1.out); (case side3 => exact cS HR0_2 HB); (case side4 => exact HC0_2.out); rintro e w35 ⟨v229, rfl, ho0, hb⟩; refine ⟨_, rfl, ?_⟩; have n0_ := Aside0.mk (Kd.S_elder' (zS HO_5) (Kd.R_base ho0) hb); have n1_ := Aside0.mk (Kd.R_lower ho0 (below_size (zB HB))); have n2_ := kB BK211 hb; have n3_ := kB BK212 hb; have n4_ := bS HB hb; clear HO_5; clear BK211; clear BK212; clear HB; have HO_5 := n0_; have HO230 := n1_; have BK211 := n2_; have BK212 := n3_; have HB := n4_; clear n0_ n1_ n2_ n3_ n4_; (try clear hb); (try clear ho0)))
              (try simp only [Act.put, List.setIfInBounds_toArray, List.set_cons_zero, List.set_cons_succ])
              go_cut [10] (fun v10 wc => ∃ (kq : Nat) (x10_31 : List Int), Aside0 (spec_FollowPairs.j3 kq x5_3 x6_2 (rd (rd_L4 x5_2 x6_2) 0) (rd (rd_L4 x5_2 x6_2) 1) x9_3 x10_31 a0_0 l0_1 l0_2 a1_0 l1_1 l1_2 = some r) ∧ Aside0 (kq ≤ k3) ∧ Aside0 (Kd.S (Kd.slice 3 (Kd.int .i64)) 38 wc w.heap.size (fun k_ => some k_ ≠ (v10 : Value).ownBlock) u5 x5_3) ∧ Aside0 (Kd.R (Kd.int .i64) 3 wc w.heap.size (fun _ => True) v10 x10_31) ∧ Aside0 (wc.heap[gb211]? = some (.cells #[.int .i64 a0_0, (.slice A0_1 l0_1.length c0_1), (.slice A0_2 l0_2.length c0_2)] 31 (0, 0))) ∧ Aside0 (wc.heap[gb212]? = some (.cells #[.int .i64 a1_0, (.slice A1_1 l1_1.length c1_1), (.slice A1_2 l1_2.length c1_2)] 31 (0, 0))) ∧ Aside0 (Below w.heap.size w wc))
              case first =>
               have H := HC32.out
               clear HC32
               by_cases c36 : x9_3 = 0
               ·rw [if_pos c36] at H
                have c36b0 : (x9_3 == 0) = true := beq_iff_eq.mpr c36
                have c36b1 : (x9_3 != 0) = false := bne_eq_false_iff_eq.mpr c36
                clear c36
                (first | rw [c36b0] | (simp only [i64_w, i32_w]; rw [c36b0]) | skip)
                replace H := Option.bind_eq_some_iff.mp H
                obtain ⟨t231, A370, H⟩ := H
                replace H : (spec_FollowPairs.j3 k3 x5_3 x6_2 (rd (rd_L4 x5_2 x6_2) 0) (rd (rd_L4 x5_2 x6_2) 1) x9_3 t231 a0_0 l0_1 l0_2 a1_0 l1_1 l1_2) = some r := H
                have A37 := Aside0.mk A370
                clear A370
                have H' := Aside0.mk H
                clear H
                have hnb38 := NB212_211.out
                have hnc38 := NB211_212.out
                have hcz39_0 := bc0 BK212
                have hcz39_1 := bc1 BK212
                have hcz39_2 := bc2 BK212
                have hfz39_0 := bf BK212 0
                have hfz39_1 := bf BK212 1
                have hfz39_2 := bf BK212 2
                go_wp2_with (first | ((with_reducible refine gate_callee (f := 49) rfl ?_); refine goesL_ (some 58) rfl rfl Try.func49 (by kernel_rfl) rfl #[.agg #[.int .i64 a1_0, .slice A1_1 l1_1.length c1_1, .slice A1_2 l1_2.length c1_2], .int .i64 (rd (rd_L4 x5_2 x6_2) 1), .bool false] rfl zG ?_; (with_reducible refine (spec_MovesFrom.calls k3 a1_0 _ _ l1_1 _ _ l1_2 (rd (rd_L4 x5_2 x6_2) 1) false t231 _ ?side1 ?side2 ?side3 ?side4 A37.out).mono ?_); (case side1 => exact cS HR1_1 HB); (case side2 => exact HC1_1.out); (case side3 => exact cS HR1_2 HB); (case side4 => exact HC1_2.out); rintro e w40 ⟨v232, rfl, ho0, hb⟩; refine ⟨_, rfl, ?_⟩; have n0_ := Aside0.mk (Kd.S_elder' (zS HO_5) (Kd.R_base ho0) hb); have n1_ := Aside0.mk (Kd.R_elder' (zR HO230) (Kd.R_base ho0) hb); have n2_ := Aside0.mk (Kd.R_lower (Kd.R_new' ho0 (Kd.R_lt (zR HO230))) (below_size (zB HB))); have n3_ := kB BK211 hb; have n4_ := kB BK212 hb; have n5_ := bS HB hb; clear HO_5; clear HO230; clear BK211; clear BK212; clear HB; have HO_5 := n0_; have HO230 := n1_; have HO233 := n2_; have BK211 := n3_; have BK212 := n4_; have HB := n5_; clear n0_ n1_ n2_ n3_ n4_ n5_; (try clear hb); (try clear ho0)))
                go_meet
                case rel => exact ⟨_, (t231), H', ⟨by have := HJ2.out; have := HK2.out; have := HK3.out; first | omega | exact Nat.le_refl _⟩, ⟨by (with_reducible repeat (first | apply Kd.S_alloc | apply Kd.S_drewN | apply Kd.S_drew)); exact Kd.S_mono HO_5.out (fun _ hk => hk.2)⟩, ⟨by (with_reducible repeat (first | apply Kd.R_alloc | apply Kd.R_drewN | apply Kd.R_drew)); exact Kd.R_mono HO233.out (fun _ hk => trivial)⟩, ⟨zK BK211⟩, ⟨zK BK212⟩, ⟨zB HB⟩⟩
               ·rw [if_neg c36] at H
                have c36b0 : (x9_3 == 0) = false := beq_eq_false_iff_ne.mpr c36
                have c36b1 : (x9_3 != 0) = true := bne_iff_ne.mpr c36
                (first | rw [c36b0] | (simp only [i64_w, i32_w]; rw [c36b0]) | skip)
                have H' := Aside0.mk H
                clear H
                go_wp2
                go_meet
                case rel => exact ⟨_, (t228), H', ⟨by have := HJ2.out; have := HK2.out; have := HK3.out; first | omega | exact Nat.le_refl _⟩, ⟨by (with_reducible repeat (first | apply Kd.S_alloc | apply Kd.S_drewN | apply Kd.S_drew)); exact Kd.S_mono HO_5.out (fun _ hk => hk.2)⟩, ⟨zR HO230⟩, ⟨zK BK211⟩, ⟨zK BK212⟩, ⟨zB HB⟩⟩
              case rest =>
               clear HC32
               try clear c1
               try clear c2
               try clear p2
               try clear q2
               try clear hx2
               try clear qi2
               try clear c3
               try clear c4
               try clear c9
               try clear c11
               try clear c16
               try clear c18
               try clear c19
               try clear c20
               try clear c22
               try clear p22
               try clear q22
               try clear hx22
               try clear qi22
               try clear c25
               try clear c25b0
               try clear c26
               try clear c26b0
               try clear c27
               try clear c27b0
               try clear c27b1
               try clear c28
               try clear c28b0
               try clear c28b1
               try clear c30
               try clear c30b0
               try clear c33
               try clear c36
               try clear c36b0
               try clear c36b1
               try clear c38
               try clear hcz12_0
               try clear hcz12_1
               try clear hcz12_2
               try clear hcz14_0
               try clear hcz14_1
               try clear hcz14_2
               try clear hcz17_0
               try clear hcz17_1
               try clear hcz17_2
               try clear hcz34_0
               try clear hcz34_1
               try clear hcz34_2
               try clear hcz39_0
               try clear hcz39_1
               try clear hcz39_2
               try clear hfz12_0
               try clear hfz12_1
               try clear hfz12_2
               try clear hfz14_0
               try clear hfz14_1
               try clear hfz14_2
               try clear hfz17_0
               try clear hfz17_1
               try clear hfz17_2
               try clear hfz34_0
               try clear hfz34_1
               try clear hfz34_2
               try clear hfz39_0
               try clear hfz39_1
               try clear hfz39_2
               try clear hx224_0
               try clear hx225_0
               try clear hx226_0
               try clear hx227_0
               try clear p2
               try clear p22
               try clear p224
               try clear p225
               try clear p226
               try clear p227
               try clear q2
               try clear q22
               try clear q224
               try clear q225
               try clear q226
               try clear q227
               obtain ⟨kq, x10_31, HA, HJ31, HO_5, HO_10, BK211, BK212, HB⟩ := hcut
               cases kq with
               | zero => exact absurd HA.out (by simp [spec_FollowPairs.j3])
               | succ kj31 =>
                have H := HA.out
                clear HA
                simp only [spec_FollowPairs.j3] at H
                have H' := Aside0.mk H
                clear H
                go_wp2
                go_loopg [5, 11] kj31 (fun kq v5 v11 w' => ∃ (x5_5 : List (List Int)) (x11_5 : Int), v11 = .int .i64 x11_5 ∧ Aside0 (spec_FollowPairs.l2 kq x5_5 x6_2 (rd (rd_L4 x5_2 x6_2) 0) (rd (rd_L4 x5_2 x6_2) 1) x9_3 x10_31 x11_5 a0_0 l0_1 l0_2 a1_0 l1_1 l1_2 = some r) ∧ Aside0 (kq ≤ kj31) ∧ Aside0 (Kd.S (Kd.slice 3 (Kd.int .i64)) 38 w' w.heap.size (fun k_ => some k_ ≠ (u10 : Value).ownBlock) v5 x5_5) ∧ Aside0 (Kd.R (Kd.int .i64) 3 w' w.heap.size (fun _ => True) u10 x10_31) ∧ Aside0 (w'.heap[gb211]? = some (.cells #[.int .i64 a0_0, (.slice A0_1 l0_1.length c0_1), (.slice A0_2 l0_2.length c0_2)] 31 (0, 0))) ∧ Aside0 (w'.heap[gb212]? = some (.cells #[.int .i64 a1_0, (.slice A1_1 l1_1.length c1_1), (.slice A1_2 l1_2.length c1_2)] 31 (0, 0))) ∧ Aside0 (Below w.heap.size w w'))
                case atStart => exact ⟨(x5_3), (0), zF, H', ⟨Nat.le_refl _⟩, ⟨zS HO_5⟩, ⟨zR HO_10⟩, ⟨zK BK211⟩, ⟨zK BK212⟩, ⟨zB HB⟩⟩
                case round =>
                 clear H'
                 try clear c1
                 try clear c2
                 try clear p2
                 try clear q2
                 try clear hx2
                 try clear qi2
                 try clear c3
                 try clear c4
                 try clear c9
                 try clear c11
                 try clear c16
                 try clear c18
                 try clear c19
                 try clear c20
                 try clear c22
                 try clear p22
                 try clear q22
                 try clear hx22
                 try clear qi22
                 try clear c25
                 try clear c25b0
                 try clear c26
                 try clear c26b0
                 try clear c27
                 try clear c27b0
                 try clear c27b1
                 try clear c28
                 try clear c28b0
                 try clear c28b1
                 try clear c30
                 try clear c30b0
                 try clear c33
                 try clear c36
                 try clear c36b0
                 try clear c36b1
                 try clear c38
                 try clear hcz12_0
                 try clear hcz12_1
                 try clear hcz12_2
                 try clear hcz14_0
                 try clear hcz14_1
                 try clear hcz14_2
                 try clear hcz17_0
                 try clear hcz17_1
                 try clear hcz17_2
                 try clear hcz34_0
                 try clear hcz34_1
                 try clear hcz34_2
                 try clear hcz39_0
                 try clear hcz39_1
                 try clear hcz39_2
                 try clear hfz12_0
                 try clear hfz12_1
                 try clear hfz12_2
                 try clear hfz14_0
                 try clear hfz14_1
                 try clear hfz14_2
                 try clear hfz17_0
                 try clear hfz17_1
                 try clear hfz17_2
                 try clear hfz34_0
                 try clear hfz34_1
                 try clear hfz34_2
                 try clear hfz39_0
                 try clear hfz39_1
                 try clear hfz39_2
                 try clear hx224_0
                 try clear hx225_0
                 try clear hx226_0
                 try clear hx227_0
                 try clear p2
                 try clear p22
                 try clear p224
                 try clear p225
                 try clear p226
                 try clear p227
                 try clear q2
                 try clear q22
                 try clear q224
                 try clear q225
                 try clear q226
                 try clear q227
                 obtain ⟨x5_5, x11_5, rfl, HA, HK5, HO_5, HO_10, BK211, BK212, HB⟩ := hrel
                 cases gk with
                 | zero => exact absurd HA.out (by simp [spec_FollowPairs.l2])
                 | succ k5 =>
                  have H := HA.out
                  clear HA
                  simp only [spec_FollowPairs.l2] at H
                  by_cases c41 : x11_5 < (x10_31.length : Int)
                  ·rw [if_pos c41] at H
                   have c41b0 : decide (x11_5 < (x10_31.length : Int)) = true := decide_eq_true c41
                   clear c41
                   by_cases c42 : 0 ≤ x11_5
                   ·rw [if_pos c42] at H
                    have c42b0 : decide (0 ≤ x11_5) = true := decide_eq_true c42
                    clear c42
                    replace H := Option.bind_eq_some_iff.mp H
                    obtain ⟨t235, A430, H⟩ := H
                    replace H : ((spec_MoveOf.f k5 a1_0 l1_1 l1_2 (rd (rd_L4 x5_2 x6_2) 1) (x9_3 == 1) (rd x10_31 x11_5)).bind fun t237 => (if t235 < 0 then (spec_FollowPairs.j5 k5 x5_5 x6_2 (rd (rd_L4 x5_2 x6_2) 0) (rd (rd_L4 x5_2 x6_2) 1) x9_3 x10_31 x11_5 t235 t237 true a0_0 l0_1 l0_2 a1_0 l1_1 l1_2) else (spec_FollowPairs.j5 k5 x5_5 x6_2 (rd (rd_L4 x5_2 x6_2) 0) (rd (rd_L4 x5_2 x6_2) 1) x9_3 x10_31 x11_5 t235 t237 (decide (t237 < 0)) a0_0 l0_1 l0_2 a1_0 l1_1 l1_2))) = some r := H
                    have A43 := Aside0.mk A430
                    clear A430
                    replace H := Option.bind_eq_some_iff.mp H
                    obtain ⟨t237, A440, H⟩ := H
                    replace H : (if t235 < 0 then (spec_FollowPairs.j5 k5 x5_5 x6_2 (rd (rd_L4 x5_2 x6_2) 0) (rd (rd_L4 x5_2 x6_2) 1) x9_3 x10_31 x11_5 t235 t237 true a0_0 l0_1 l0_2 a1_0 l1_1 l1_2) else (spec_FollowPairs.j5 k5 x5_5 x6_2 (rd (rd_L4 x5_2 x6_2) 0) (rd (rd_L4 x5_2 x6_2) 1) x9_3 x10_31 x11_5 t235 t237 (decide (t237 < 0)) a0_0 l0_1 l0_2 a1_0 l1_1 l1_2)) = some r := H
                    have A44 := Aside0.mk A440
                    clear A440
                    have HC45 := Aside0.mk H
                    clear H
                    obtain ⟨Ao46, co46, eo46⟩ := Kd.R_slice HO_10.out
                    subst eo46
                    try go_wp2
                    have n0_ := Aside0.mk (Kd.S_drew HO_5.out)
                    have n1_ := Aside0.mk (Kd.R_drew HO_10.out)
                    have n2_ := Aside0.mk (blk_drew BK211.out)
                    have n3_ := Aside0.mk (blk_drew BK212.out)
                    have n4_ := Aside0.mk (below_drew1 HB.out)
                    clear HO_5
                    clear HO_10
                    clear BK211
                    clear BK212
                    clear HB
                    have HO_5 := n0_
                    have HO_10 := n1_
                    have BK211 := n2_
                    have BK212 := n3_
                    have HB := n4_
                    clear n0_ n1_ n2_ n3_ n4_
                    have p234 : 0 ≤ (x11_5 : Int) := of_decide_eq_true (by first | (with_reducible assumption) | assumption)
                    have q234 : x11_5 < (x10_31.length : Int) := of_decide_eq_true (by first | (with_reducible assumption) | assumption)
                    obtain ⟨ad234, e234, hx234_0⟩ := Kd.at_int (Kd.R_reads' HO_10.out).2.2 x11_5 p234 q234
                    cases e234
                    replace p234 := eq_true p234
                    replace q234 := eq_true q234
                    refine start_ (n := 10) (S := fun w' => w'.cell? ⟨gb211, 0, none⟩ = some (.int .i64 a0_0) ∧ w'.cell? ⟨gb211, 1, none⟩ = some (.slice A0_1 l0_1.length c0_1) ∧ w'.cell? ⟨gb211, 2, none⟩ = some (.slice A0_2 l0_2.length c0_2) ∧ w'.cell? (ad234.add (x11_5).toNat) = some (.int .i64 (rd x10_31 x11_5))) (ds := []) (bm 10 0) (by kernel_rfl) rfl (bm0 _) ⟨bc0 BK211, bc1 BK211, bc2 BK211, hx234_0⟩ (fun hHeld => ?_); refine with_tabW spec_FollowPairs.tab19 spec_FollowPairs.bits19 (fun HT_ HW_ => ?_)
                    generalize wr.drew = w47 at HO_5 HO_10 BK211 BK212 HB hx234_0 hHeld ⊢
                    refine pure_ (i := 1) (N := some 66) (v := ?_) (a' := ?_) (bm 10 2) rfl rfl (any_of HT_.out (by kernel_rfl)) (fun _ _ _ h => h) (Or.inl ⟨by rfl, ?_⟩) ?_ ?_
                    rotate_left
                    ·intro w'
                     go_simp
                     with_reducible rfl
                    rotate_left
                    ·simp only [Act.put, List.setIfInBounds_toArray, List.set_cons_zero, List.set_cons_succ, i64_w, i32_w]
                     rfl
                    refine pure_ (i := 2) (N := some 67) (v := ?_) (a' := ?_) (bm 10 6) rfl rfl (any_of HT_.out (by kernel_rfl)) (fun _ _ _ h => h) (Or.inl ⟨by rfl, ?_⟩) ?_ ?_
                    rotate_left
                    ·intro w'
                     go_simp
                     with_reducible rfl
                    rotate_left
                    ·simp only [Act.put, List.setIfInBounds_toArray, List.set_cons_zero, List.set_cons_succ, i64_w, i32_w]
                     rfl
                    refine pure_ (i := 3) (N := some 68) (v := ?_) (a' := ?_) (bm 10 14) rfl rfl (any_of HT_.out (by kernel_rfl)) (fun _ _ _ h => h) (Or.inl ⟨by rfl, ?_⟩) ?_ ?_
                    rotate_left
                    ·intro w'
                     go_simp
                     with_reducible rfl
                    rotate_left
                    ·simp only [Act.put, List.setIfInBounds_toArray, List.set_cons_zero, List.set_cons_succ, i64_w, i32_w]
                     rfl
                    refine pure_ (i := 4) (N := some 69) (v := ?_) (a' := ?_) (bm 10 30) rfl rfl (any_of HT_.out (by kernel_rfl)) (fun _ _ _ h => h) (Or.inl ⟨by rfl, ?_⟩) ?_ ?_
                    rotate_left
                    ·intro w'
                     go_simp
                     with_reducible rfl
                    rotate_left
                    ·simp only [Act.put, List.setIfInBounds_toArray, List.set_cons_zero, List.set_cons_succ, i64_w, i32_w]
                     rfl
                    refine pure_ (i := 5) (N := some 70) (v := ?_) (a' := ?_) (bm 10 62) rfl rfl (any_of HT_.out (by kernel_rfl)) (fun _ _ _ h => h) (Or.inl ⟨by rfl, ?_⟩) ?_ ?_
                    rotate_left
                    ·intro w'
                     go_simp
                     with_reducible rfl
                    rotate_left
                    ·simp only [Act.put, List.setIfInBounds_toArray, List.set_cons_zero, List.set_cons_succ, i64_w, i32_w]
                     rfl
                    refine pure_ (i := 6) (N := some 71) (v := ?_) (a' := ?_) (bm 10 126) rfl rfl (any_of HT_.out (by kernel_rfl)) (fun _ _ _ h => h) (Or.inl ⟨by rfl, ?_⟩) ?_ ?_
                    rotate_left
                    ·intro w'
                     go_simp
                     with_reducible rfl
                    rotate_left
                    ·simp only [Act.put, List.setIfInBounds_toArray, List.set_cons_zero, List.set_cons_succ, i64_w, i32_w]
                     rfl
                    refine take_ (i := 0) (N := some 65) (v := ?_) (a' := ?_) (bm 10 127) rfl rfl (take_ofW HT_.out HW_.out (by kernel_rfl)) (fun _ _ _ h => h) (Or.inl ⟨by rfl, ?_⟩) hHeld ?_ ?_
                    rotate_left
                    ·rintro w' ⟨s0, s1, s2, s3⟩
                     go_simp
                     with_reducible rfl
                    rotate_left
                    ·simp only [Act.put, List.setIfInBounds_toArray, List.set_cons_zero, List.set_cons_succ, i64_w, i32_w]
                     rfl
                    refine take_ (i := 7) (N := some 72) (v := ?_) (a' := ?_) (bm 10 255) rfl rfl (take_ofW HT_.out HW_.out (by kernel_rfl)) (fun _ _ _ h => h) (Or.inl ⟨by rfl, ?_⟩) hHeld ?_ ?_
                    rotate_left
                    ·rintro w' ⟨s0, s1, s2, s3⟩
                     go_simp
                     with_reducible rfl
                    rotate_left
                    ·simp only [Act.put, List.setIfInBounds_toArray, List.set_cons_zero, List.set_cons_succ, i64_w, i32_w]
                     rfl
                    refine one_ (i := 8) (N := some 73) (bm 10 511) rfl rfl (one_of HT_.out (by kernel_rfl)) (by decide) (fun K hK => ?_)
                    refine goes_ Try.func50 (by kernel_rfl) rfl #[.agg #[.int .i64 a0_0, .slice A0_1 l0_1.length c0_1, .slice A0_2 l0_2.length c0_2], .int .i64 (rd (rd_L4 x5_2 x6_2) 0), .bool (x9_3 == 1), .int .i64 (rd x10_31 x11_5)] (by rfl) rfl rfl zG ?_
                    with_reducible refine (spec_MoveOf.calls k5 a0_0 _ _ l0_1 _ _ l0_2 (rd (rd_L4 x5_2 x6_2) 0) (x9_3 == 1) (rd x10_31 x11_5) t235 _ ?side1 ?side2 ?side3 ?side4 A43.out).mono ?_
                    (case side1 => exact cS HR0_1 HB)
                    (case side2 => exact HC0_1.out)
                    (case side3 => exact cS HR0_2 HB)
                    (case side4 => exact HC0_2.out)
                    rintro e w48 ⟨rfl, hb⟩
                    have HS3_ := (hb.cell (World.block_lt_of_cell? _ _ (hHeld.2.2.2))).trans (hHeld.2.2.2)
                    refine ⟨_, rfl, ?_⟩
                    have n0_ := Aside0.mk (Kd.S_below (zS HO_5) hb)
                    have n1_ := Aside0.mk (Kd.R_below (zR HO_10) hb)
                    have n2_ := kB BK211 hb
                    have n3_ := kB BK212 hb
                    have n4_ := bS HB hb
                    clear HO_5
                    clear HO_10
                    clear BK211
                    clear BK212
                    clear HB
                    have HO_5 := n0_
                    have HO_10 := n1_
                    have BK211 := n2_
                    have BK212 := n3_
                    have HB := n4_
                    clear n0_ n1_ n2_ n3_ n4_
                    (try clear hb)
                    (try clear hb2)
                    (try clear hk)
                    (try clear hi)
                    refine hK.out _ _ ⟨bc0 BK211, bc1 BK211, bc2 BK211, HS3_⟩ (fun hHeld => ?_)
                    clear hK K
                    refine norm_ (a' := ?_) ?_ ?_
                    rotate_left
                    ·show Act.put _ (some 73) _ = _
                     simp only [Act.put, List.setIfInBounds_toArray, List.set_cons_zero, List.set_cons_succ, i64_w, i32_w]
                     rfl
                    refine pure_ (i := 9) (N := some 12) (v := ?_) (a' := ?_) (bm 10 1023) rfl rfl (any_of HT_.out (by kernel_rfl)) (fun _ _ _ h => h) (Or.inl ⟨by rfl, ?_⟩) ?_ ?_
                    rotate_left
                    ·intro w'
                     go_simp
                     with_reducible rfl
                    rotate_left
                    ·simp only [Act.put, List.setIfInBounds_toArray, List.set_cons_zero, List.set_cons_succ, i64_w, i32_w]
                     rfl
                    refine done_ (done_of HT_.out (by kernel_rfl)) ?_
                    try clear hHeld
                    try go_wp2
                    have n0_ := Aside0.mk (Kd.S_drew HO_5.out)
                    have n1_ := Aside0.mk (Kd.R_drew HO_10.out)
                    have n2_ := Aside0.mk (blk_drew BK211.out)
                    have n3_ := Aside0.mk (blk_drew BK212.out)
                    have n4_ := Aside0.mk (below_drew1 HB.out)
                    clear HO_5
                    clear HO_10
                    clear BK211
                    clear BK212
                    clear HB
                    have HO_5 := n0_
                    have HO_10 := n1_
                    have BK211 := n2_
                    have BK212 := n3_
                    have HB := n4_
                    clear n0_ n1_ n2_ n3_ n4_
                    have p236 : 0 ≤ (x11_5 : Int) := of_decide_eq_true (by first | (with_reducible assumption) | assumption)
                    have q236 : x11_5 < (x10_31.length : Int) := of_decide_eq_true (by first | (with_reducible assumption) | assumption)
                    obtain ⟨ad236, e236, hx236_0⟩ := Kd.at_int (Kd.R_reads' HO_10.out).2.2 x11_5 p236 q236
                    obtain rfl : ad234 = ad236 := (by injection e236)
                    replace p236 := eq_true p236
                    replace q236 := eq_true q236
                    refine start_ (n := 10) (S := fun w' => w'.cell? ⟨gb212, 0, none⟩ = some (.int .i64 a1_0) ∧ w'.cell? ⟨gb212, 1, none⟩ = some (.slice A1_1 l1_1.length c1_1) ∧ w'.cell? ⟨gb212, 2, none⟩ = some (.slice A1_2 l1_2.length c1_2) ∧ w'.cell? (ad234.add (x11_5).toNat) = some (.int .i64 (rd x10_31 x11_5))) (ds := []) (bm 10 0) (by kernel_rfl) rfl (bm0 _) ⟨bc0 BK212, bc1 BK212, bc2 BK212, hx236_0⟩ (fun hHeld => ?_); refine with_tabW spec_FollowPairs.tab20 spec_FollowPairs.bits20 (fun HT_ HW_ => ?_)
                    generalize w48.drew = w49 at HO_5 HO_10 BK211 BK212 HB hx236_0 hHeld ⊢
                    refine pure_ (i := 1) (N := some 75) (v := ?_) (a' := ?_) (bm 10 2) rfl rfl (any_of HT_.out (by kernel_rfl)) (fun _ _ _ h => h) (Or.inl ⟨by rfl, ?_⟩) ?_ ?_
                    rotate_left
                    ·intro w'
                     go_simp
                     with_reducible rfl
                    rotate_left
                    ·simp only [Act.put, List.setIfInBounds_toArray, List.set_cons_zero, List.set_cons_succ, i64_w, i32_w]
                     rfl
                    refine pure_ (i := 2) (N := some 76) (v := ?_) (a' := ?_) (bm 10 6) rfl rfl (any_of HT_.out (by kernel_rfl)) (fun _ _ _ h => h) (Or.inl ⟨by rfl, ?_⟩) ?_ ?_
                    rotate_left
                    ·intro w'
                     go_simp
                     with_reducible rfl
                    rotate_left
                    ·simp only [Act.put, List.setIfInBounds_toArray, List.set_cons_zero, List.set_cons_succ, i64_w, i32_w]
                     rfl
                    refine pure_ (i := 3) (N := some 77) (v := ?_) (a' := ?_) (bm 10 14) rfl rfl (any_of HT_.out (by kernel_rfl)) (fun _ _ _ h => h) (Or.inl ⟨by rfl, ?_⟩) ?_ ?_
                    rotate_left
                    ·intro w'
                     go_simp
                     with_reducible rfl
                    rotate_left
                    ·simp only [Act.put, List.setIfInBounds_toArray, List.set_cons_zero, List.set_cons_succ, i64_w, i32_w]
                     rfl
                    refine pure_ (i := 4) (N := some 78) (v := ?_) (a' := ?_) (bm 10 30) rfl rfl (any_of HT_.out (by kernel_rfl)) (fun _ _ _ h => h) (Or.inl ⟨by rfl, ?_⟩) ?_ ?_
                    rotate_left
                    ·intro w'
                     go_simp
                     with_reducible rfl
                    rotate_left
                    ·simp only [Act.put, List.setIfInBounds_toArray, List.set_cons_zero, List.set_cons_succ, i64_w, i32_w]
                     rfl
                    refine pure_ (i := 5) (N := some 79) (v := ?_) (a' := ?_) (bm 10 62) rfl rfl (any_of HT_.out (by kernel_rfl)) (fun _ _ _ h => h) (Or.inl ⟨by rfl, ?_⟩) ?_ ?_
                    rotate_left
                    ·intro w'
                     go_simp
                     with_reducible rfl
                    rotate_left
                    ·simp only [Act.put, List.setIfInBounds_toArray, List.set_cons_zero, List.set_cons_succ, i64_w, i32_w]
                     rfl
                    refine pure_ (i := 6) (N := some 80) (v := ?_) (a' := ?_) (bm 10 126) rfl rfl (any_of HT_.out (by kernel_rfl)) (fun _ _ _ h => h) (Or.inl ⟨by rfl, ?_⟩) ?_ ?_
                    rotate_left
                    ·intro w'
                     go_simp
                     with_reducible rfl
                    rotate_left
                    ·simp only [Act.put, List.setIfInBounds_toArray, List.set_cons_zero, List.set_cons_succ, i64_w, i32_w]
                     rfl
                    refine take_ (i := 0) (N := some 74) (v := ?_) (a' := ?_) (bm 10 127) rfl rfl (take_ofW HT_.out HW_.out (by kernel_rfl)) (fun _ _ _ h => h) (Or.inl ⟨by rfl, ?_⟩) hHeld ?_ ?_
                    rotate_left
                    ·rintro w' ⟨s0, s1, s2, s3⟩
                     go_simp
                     with_reducible rfl
                    rotate_left
                    ·simp only [Act.put, List.setIfInBounds_toArray, List.set_cons_zero, List.set_cons_succ, i64_w, i32_w]
                     rfl
                    refine take_ (i := 7) (N := some 81) (v := ?_) (a' := ?_) (bm 10 255) rfl rfl (take_ofW HT_.out HW_.out (by kernel_rfl)) (fun _ _ _ h => h) (Or.inl ⟨by rfl, ?_⟩) hHeld ?_ ?_
                    rotate_left
                    ·rintro w' ⟨s0, s1, s2, s3⟩
                     go_simp
                     with_reducible rfl
                    rotate_left
                    ·simp only [Act.put, List.setIfInBounds_toArray, List.set_cons_zero, List.set_cons_succ, i64_w, i32_w]
                     rfl
                    refine one_ (i := 8) (N := some 82) (bm 10 511) rfl rfl (one_of HT_.out (by kernel_rfl)) (by decide) (fun K hK => ?_)
                    refine goes_ Try.func50 (by kernel_rfl) rfl #[.agg #[.int .i64 a1_0, .slice A1_1 l1_1.length c1_1, .slice A1_2 l1_2.length c1_2], .int .i64 (rd (rd_L4 x5_2 x6_2) 1), .bool (x9_3 == 1), .int .i64 (rd x10_31 x11_5)] (by rfl) rfl rfl zG ?_
                    with_reducible refine (spec_MoveOf.calls k5 a1_0 _ _ l1_1 _ _ l1_2 (rd (rd_L4 x5_2 x6_2) 1) (x9_3 == 1) (rd x10_31 x11_5) t237 _ ?side1 ?side2 ?side3 ?side4 A44.out).mono ?_
                    (case side1 => exact cS HR1_1 HB)
                    (case side2 => exact HC1_1.out)
                    (case side3 => exact cS HR1_2 HB)
                    (case side4 => exact HC1_2.out)
                    rintro e w50 ⟨rfl, hb⟩
                    have HS3_ := (hb.cell (World.block_lt_of_cell? _ _ (hHeld.2.2.2))).trans (hHeld.2.2.2)
                    refine ⟨_, rfl, ?_⟩
                    have n0_ := Aside0.mk (Kd.S_below (zS HO_5) hb)
                    have n1_ := Aside0.mk (Kd.R_below (zR HO_10) hb)
                    have n2_ := kB BK211 hb
                    have n3_ := kB BK212 hb
                    have n4_ := bS HB hb
                    clear HO_5
                    clear HO_10
                    clear BK211
                    clear BK212
                    clear HB
                    have HO_5 := n0_
                    have HO_10 := n1_
                    have BK211 := n2_
                    have BK212 := n3_
                    have HB := n4_
                    clear n0_ n1_ n2_ n3_ n4_
                    (try clear hb)
                    (try clear hb2)
                    (try clear hk)
                    (try clear hi)
                    refine hK.out _ _ ⟨bc0 BK212, bc1 BK212, bc2 BK212, HS3_⟩ (fun hHeld => ?_)
                    clear hK K
                    refine norm_ (a' := ?_) ?_ ?_
                    rotate_left
                    ·show Act.put _ (some 82) _ = _
                     simp only [Act.put, List.setIfInBounds_toArray, List.set_cons_zero, List.set_cons_succ, i64_w, i32_w]
                     rfl
                    refine pure_ (i := 9) (N := some 13) (v := ?_) (a' := ?_) (bm 10 1023) rfl rfl (any_of HT_.out (by kernel_rfl)) (fun _ _ _ h => h) (Or.inl ⟨by rfl, ?_⟩) ?_ ?_
                    rotate_left
                    ·intro w'
                     go_simp
                     with_reducible rfl
                    rotate_left
                    ·simp only [Act.put, List.setIfInBounds_toArray, List.set_cons_zero, List.set_cons_succ, i64_w, i32_w]
                     rfl
                    refine done_ (done_of HT_.out (by kernel_rfl)) ?_
                    try clear hHeld
                    go_upto_region 21 with (fail)
                    go_cut [88] (fun v88 wc => ∃ (kq : Nat) (x88_44 : Bool), v88 = .bool x88_44 ∧ Aside0 (spec_FollowPairs.j5 kq x5_5 x6_2 (rd (rd_L4 x5_2 x6_2) 0) (rd (rd_L4 x5_2 x6_2) 1) x9_3 x10_31 x11_5 t235 t237 x88_44 a0_0 l0_1 l0_2 a1_0 l1_1 l1_2 = some r) ∧ Aside0 (kq ≤ k5) ∧ Aside0 (Kd.S (Kd.slice 3 (Kd.int .i64)) 38 wc w.heap.size (fun k_ => some k_ ≠ ((.slice (some ad234) x10_31.length co46) : Value).ownBlock) u5 x5_5) ∧ Aside0 (Kd.R (Kd.int .i64) 3 wc w.heap.size (fun _ => True) (.slice (some ad234) x10_31.length co46) x10_31) ∧ Aside0 (wc.heap[gb211]? = some (.cells #[.int .i64 a0_0, (.slice A0_1 l0_1.length c0_1), (.slice A0_2 l0_2.length c0_2)] 31 (0, 0))) ∧ Aside0 (wc.heap[gb212]? = some (.cells #[.int .i64 a1_0, (.slice A1_1 l1_1.length c1_1), (.slice A1_2 l1_2.length c1_2)] 31 (0, 0))) ∧ Aside0 (Below w.heap.size w wc))
                    case first =>
                     have H := HC45.out
                     clear HC45
                     by_cases c51 : t235 < 0
                     ·rw [if_pos c51] at H
                      have c51b0 : decide (t235 < 0) = true := decide_eq_true c51
                      clear c51
                      (first | rw [c51b0] | (simp only [i64_w, i32_w]; rw [c51b0]) | skip)
                      have H' := Aside0.mk H
                      clear H
                      go_wp2
                      go_meet
                      case rel => exact ⟨_, (true), zF, H', ⟨by have := HJ2.out; have := HK2.out; have := HK3.out; have := HJ31.out; have := HK5.out; first | omega | exact Nat.le_refl _⟩, ⟨zS HO_5⟩, ⟨zR HO_10⟩, ⟨zK BK211⟩, ⟨zK BK212⟩, ⟨zB HB⟩⟩
                     ·rw [if_neg c51] at H
                      have c51b0 : decide (t235 < 0) = false := decide_eq_false c51
                      clear c51
                      (first | rw [c51b0] | (simp only [i64_w, i32_w]; rw [c51b0]) | skip)
                      have H' := Aside0.mk H
                      clear H
                      go_wp2
                      go_meet
                      case rel => exact ⟨_, (decide (t237 < 0)), zF, H', ⟨by have := HJ2.out; have := HK2.out; have := HK3.out; have := HJ31.out; have := HK5.out; first | omega | exact Nat.le_refl _⟩, ⟨zS HO_5⟩, ⟨zR HO_10⟩, ⟨zK BK211⟩, ⟨zK BK212⟩, ⟨zB HB⟩⟩
                    case rest =>
                     clear HC45
                     try clear c1
                     try clear c2
                     try clear p2
                     try clear q2
                     try clear hx2
                     try clear qi2
                     try clear c3
                     try clear c4
                     try clear c5
                     try clear c9
                     try clear c11
                     try clear c16
                     try clear c18
                     try clear c19
                     try clear c20
                     try clear c22
                     try clear p22
                     try clear q22
                     try clear hx22
                     try clear qi22
                     try clear p23
                     try clear q23
                     try clear hx23
                     try clear c25
                     try clear c25b0
                     try clear c26
                     try clear c26b0
                     try clear c27
                     try clear c27b0
                     try clear c27b1
                     try clear c28
                     try clear c28b0
                     try clear c28b1
                     try clear c30
                     try clear c30b0
                     try clear c33
                     try clear c36
                     try clear c36b0
                     try clear c36b1
                     try clear c38
                     try clear c41
                     try clear c41b0
                     try clear c42
                     try clear c42b0
                     try clear c49
                     try clear c50
                     try clear c51
                     try clear c51b0
                     try clear hcz12_0
                     try clear hcz12_1
                     try clear hcz12_2
                     try clear hcz14_0
                     try clear hcz14_1
                     try clear hcz14_2
                     try clear hcz17_0
                     try clear hcz17_1
                     try clear hcz17_2
                     try clear hcz34_0
                     try clear hcz34_1
                     try clear hcz34_2
                     try clear hcz39_0
                     try clear hcz39_1
                     try clear hcz39_2
                     try clear hfz12_0
                     try clear hfz12_1
                     try clear hfz12_2
                     try clear hfz14_0
                     try clear hfz14_1
                     try clear hfz14_2
                     try clear hfz17_0
                     try clear hfz17_1
                     try clear hfz17_2
                     try clear hfz34_0
                     try clear hfz34_1
                     try clear hfz34_2
                     try clear hfz39_0
                     try clear hfz39_1
                     try clear hfz39_2
                     try clear hx224_0
                     try clear hx225_0
                     try clear hx226_0
                     try clear hx227_0
                     try clear hx234_0
                     try clear hx236_0
                     try clear p2
                     try clear p22
                     try clear p224
                     try clear p225
                     try clear p226
                     try clear p227
                     try clear p234
                     try clear p236
                     try clear q2
                     try clear q22
                     try clear q224
                     try clear q225
                     try clear q226
                     try clear q227
                     try clear q234
                     try clear q236
                     obtain ⟨kq, x88_44, rfl, HA, HJ44, HO_5, HO_10, BK211, BK212, HB⟩ := hcut
                     cases kq with
                     | zero => exact absurd HA.out (by simp [spec_FollowPairs.j5])
                     | succ kj44 =>
                      have H := HA.out
                      clear HA
                      simp only [spec_FollowPairs.j5] at H
                      by_cases c52 : x88_44 = true
                      ·subst c52
                       have H1 : (spec_FollowPairs.l2 kj44 x5_5 x6_2 (rd (rd_L4 x5_2 x6_2) 0) (rd (rd_L4 x5_2 x6_2) 1) x9_3 x10_31 (wrap64 (x11_5 + 1)) a0_0 l0_1 l0_2 a1_0 l1_1 l1_2) = some r := by rw [if_pos rfl] at H; exact H
                       clear H
                       have H := H1
                       clear H1
                       have H' := Aside0.mk H
                       clear H
                       go_wp2
                       go_roundg kj44
                       case measure => have := HJ2.out; have := HK2.out; have := HK3.out; have := HJ31.out; have := HK5.out; have := HJ44.out; omega
                       case rel => exact ⟨(x5_5), (wrap64 (x11_5 + 1)), zF, H', ⟨by have := HJ2.out; have := HK2.out; have := HK3.out; have := HJ31.out; have := HK5.out; have := HJ44.out; omega⟩, ⟨zS HO_5⟩, ⟨zR HO_10⟩, ⟨zK BK211⟩, ⟨zK BK212⟩, ⟨zB HB⟩⟩
                      ·replace c52 := Bool.eq_false_iff.mpr c52
                       subst c52
                       have H1 : (if 0 ≤ t235 then (if t235 < (l0_2.length : Int) then (if 0 ≤ t237 then (if t237 < (l1_2.length : Int) then ((some (([(rd_T64 l0_2 t235).f3, (rd_T64 l1_2 t237).f3] : List Int) : List Int)).bind fun y240 => ((spec_l14Has.f kj44 x5_5 y240).bind fun t243 => (if t243 = true then (spec_FollowPairs.l2 kj44 x5_5 x6_2 (rd (rd_L4 x5_2 x6_2) 0) (rd (rd_L4 x5_2 x6_2) 1) x9_3 x10_31 (wrap64 (x11_5 + 1)) a0_0 l0_1 l0_2 a1_0 l1_1 l1_2) else (if x5_5.length < 5864062014805 then (spec_FollowPairs.l2 kj44 (x5_5 ++ [y240]) x6_2 (rd (rd_L4 x5_2 x6_2) 0) (rd (rd_L4 x5_2 x6_2) 1) x9_3 x10_31 (wrap64 (x11_5 + 1)) a0_0 l0_1 l0_2 a1_0 l1_1 l1_2) else (none))))) else (none)) else (none)) else (none)) else (none)) = some r := by rw [if_neg (show ¬ (false = true) by decide)] at H; exact H
                       clear H
                       have H := H1
                       clear H1
                       by_cases c53 : 0 ≤ t235
                       ·rw [if_pos c53] at H
                        have c53b0 : decide (0 ≤ t235) = true := decide_eq_true c53
                        clear c53
                        by_cases c54 : t235 < (l0_2.length : Int)
                        ·rw [if_pos c54] at H
                         have c54b0 : decide (t235 < (l0_2.length : Int)) = true := decide_eq_true c54
                         clear c54
                         by_cases c55 : 0 ≤ t237
                         ·rw [if_pos c55] at H
                          have c55b0 : decide (0 ≤ t237) = true := decide_eq_true c55
                          clear c55
                          by_cases c56 : t237 < (l1_2.length : Int)
                          ·rw [if_pos c56] at H
                           have c56b0 : decide (t237 < (l1_2.length : Int)) = true := decide_eq_true c56
                           clear c56
                           obtain ⟨y240, hy240⟩ : ∃ y_ : List Int, y_ = (([(rd_T64 l0_2 t235).f3, (rd_T64 l1_2 t237).f3] : List Int)) := ⟨_, rfl⟩
                           replace H : ((spec_l14Has.f kj44 x5_5 y240).bind fun t243 => (if t243 = true then (spec_FollowPairs.l2 kj44 x5_5 x6_2 (rd (rd_L4 x5_2 x6_2) 0) (rd (rd_L4 x5_2 x6_2) 1) x9_3 x10_31 (wrap64 (x11_5 + 1)) a0_0 l0_1 l0_2 a1_0 l1_1 l1_2) else (if x5_5.length < 5864062014805 then (spec_FollowPairs.l2 kj44 (x5_5 ++ [y240]) x6_2 (rd (rd_L4 x5_2 x6_2) 0) (rd (rd_L4 x5_2 x6_2) 1) x9_3 x10_31 (wrap64 (x11_5 + 1)) a0_0 l0_1 l0_2 a1_0 l1_1 l1_2) else (none)))) = some r := by first | (rw [hy240]; with_reducible exact H) | (have H2_ := (Option.bind_some _ _).symm.trans H; rw [hy240]; with_reducible exact H2_) | (have H2_ := (Option.bind_some _ _).symm.trans H; with_reducible exact H2_) | with_reducible exact H | (rw [hy240]; exact H) | exact H
                           have Ny240 := Aside0.mk hy240
                           clear hy240
                           replace H := Option.bind_eq_some_iff.mp H
                           obtain ⟨t243, A570, H⟩ := H
                           replace H : (if t243 = true then (spec_FollowPairs.l2 kj44 x5_5 x6_2 (rd (rd_L4 x5_2 x6_2) 0) (rd (rd_L4 x5_2 x6_2) 1) x9_3 x10_31 (wrap64 (x11_5 + 1)) a0_0 l0_1 l0_2 a1_0 l1_1 l1_2) else (if x5_5.length < 5864062014805 then (spec_FollowPairs.l2 kj44 (x5_5 ++ [y240]) x6_2 (rd (rd_L4 x5_2 x6_2) 0) (rd (rd_L4 x5_2 x6_2) 1) x9_3 x10_31 (wrap64 (x11_5 + 1)) a0_0 l0_1 l0_2 a1_0 l1_1 l1_2) else (none))) = some r := H
                           have A57 := Aside0.mk A570
                           clear A570
                           by_cases c58 : t243 = true
                           ·subst c58
                            have H1 : (spec_FollowPairs.l2 kj44 x5_5 x6_2 (rd (rd_L4 x5_2 x6_2) 0) (rd (rd_L4 x5_2 x6_2) 1) x9_3 x10_31 (wrap64 (x11_5 + 1)) a0_0 l0_1 l0_2 a1_0 l1_1 l1_2) = some r := by rw [if_pos rfl] at H; exact H
                            clear H
                            have H := H1
                            clear H1
                            have H' := Aside0.mk H
                            clear H
                            try go_wp2
                            have n0_ := Aside0.mk (Kd.S_drew HO_5.out)
                            have n1_ := Aside0.mk (Kd.R_drew HO_10.out)
                            have n2_ := Aside0.mk (blk_drew BK211.out)
                            have n3_ := Aside0.mk (blk_drew BK212.out)
                            have n4_ := Aside0.mk (below_drew1 HB.out)
                            clear HO_5
                            clear HO_10
                            clear BK211
                            clear BK212
                            clear HB
                            have HO_5 := n0_
                            have HO_10 := n1_
                            have BK211 := n2_
                            have BK212 := n3_
                            have HB := n4_
                            clear n0_ n1_ n2_ n3_ n4_
                            have p238 : 0 ≤ (t235 : Int) := of_decide_eq_true (by first | (with_reducible assumption) | assumption)
                            have q238 : t235 < (l0_2.length : Int) := of_decide_eq_true (by first | (with_reducible assumption) | assumption)
                            obtain ⟨ad238, e238, hx238_0, hx238_1, hx238_2, hx238_3⟩ := at_T64 HR0_2.out t235 p238 q238
                            have hw238_3 := hx238_3
                            have hw238_2 := hx238_2
                            have hw238_1 := hx238_1
                            have hw238_0 := hx238_0
                            cases e238
                            replace hx238_0 := (HB.out.cell (World.block_lt_of_cell? w _ hx238_0)).trans hx238_0
                            replace hx238_1 := (HB.out.cell (World.block_lt_of_cell? w _ hx238_1)).trans hx238_1
                            replace hx238_2 := (HB.out.cell (World.block_lt_of_cell? w _ hx238_2)).trans hx238_2
                            replace hx238_3 := (HB.out.cell (World.block_lt_of_cell? w _ hx238_3)).trans hx238_3
                            replace p238 := eq_true p238
                            replace q238 := eq_true q238
                            have p239 : 0 ≤ (t237 : Int) := of_decide_eq_true (by first | (with_reducible assumption) | assumption)
                            have q239 : t237 < (l1_2.length : Int) := of_decide_eq_true (by first | (with_reducible assumption) | assumption)
                            obtain ⟨ad239, e239, hx239_0, hx239_1, hx239_2, hx239_3⟩ := at_T64 HR1_2.out t237 p239 q239
                            have hw239_3 := hx239_3
                            have hw239_2 := hx239_2
                            have hw239_1 := hx239_1
                            have hw239_0 := hx239_0
                            cases e239
                            replace hx239_0 := (HB.out.cell (World.block_lt_of_cell? w _ hx239_0)).trans hx239_0
                            replace hx239_1 := (HB.out.cell (World.block_lt_of_cell? w _ hx239_1)).trans hx239_1
                            replace hx239_2 := (HB.out.cell (World.block_lt_of_cell? w _ hx239_2)).trans hx239_2
                            replace hx239_3 := (HB.out.cell (World.block_lt_of_cell? w _ hx239_3)).trans hx239_3
                            replace p239 := eq_true p239
                            replace q239 := eq_true q239
                            refine start_ (n := 14) (S := fun w' => w'.cell? ⟨gb211, 0, none⟩ = some (.int .i64 a0_0) ∧ w'.cell? ⟨gb211, 1, none⟩ = some (.slice A0_1 l0_1.length c0_1) ∧ w'.cell? ⟨gb211, 2, none⟩ = some (.slice (some ad238) l0_2.length c0_2) ∧ w'.cell? ⟨gb212, 0, none⟩ = some (.int .i64 a1_0) ∧ w'.cell? ⟨gb212, 1, none⟩ = some (.slice A1_1 l1_1.length c1_1) ∧ w'.cell? ⟨gb212, 2, none⟩ = some (.slice (some ad239) l1_2.length c1_2) ∧ w'.cell? (ad238.add ((t235).toNat * 4)) = some (.int .i64 ((rd_T64 l0_2 t235).f0)) ∧ w'.cell? ⟨(ad238.add ((t235).toNat * 4)).block, (ad238.add ((t235).toNat * 4)).off + 1, none⟩ = some (.bool ((rd_T64 l0_2 t235).f1)) ∧ w'.cell? ⟨(ad238.add ((t235).toNat * 4)).block, (ad238.add ((t235).toNat * 4)).off + 2, none⟩ = some (.int .i64 ((rd_T64 l0_2 t235).f2)) ∧ w'.cell? ⟨(ad238.add ((t235).toNat * 4)).block, (ad238.add ((t235).toNat * 4)).off + 3, none⟩ = some (.int .i64 ((rd_T64 l0_2 t235).f3)) ∧ w'.cell? (ad239.add ((t237).toNat * 4)) = some (.int .i64 ((rd_T64 l1_2 t237).f0)) ∧ w'.cell? ⟨(ad239.add ((t237).toNat * 4)).block, (ad239.add ((t237).toNat * 4)).off + 1, none⟩ = some (.bool ((rd_T64 l1_2 t237).f1)) ∧ w'.cell? ⟨(ad239.add ((t237).toNat * 4)).block, (ad239.add ((t237).toNat * 4)).off + 2, none⟩ = some (.int .i64 ((rd_T64 l1_2 t237).f2)) ∧ w'.cell? ⟨(ad239.add ((t237).toNat * 4)).block, (ad239.add ((t237).toNat * 4)).off + 3, none⟩ = some (.int .i64 ((rd_T64 l1_2 t237).f3))) (ds := []) (bm 14 0) (by kernel_rfl) rfl (bm0 _) ⟨bc0 BK211, bc1 BK211, bc2 BK211, bc0 BK212, bc1 BK212, bc2 BK212, ((HB.out.cell (World.block_lt_of_cell? w _ hw238_0)).trans hw238_0), ((HB.out.cell (World.block_lt_of_cell? w _ hw238_1)).trans hw238_1), ((HB.out.cell (World.block_lt_of_cell? w _ hw238_2)).trans hw238_2), ((HB.out.cell (World.block_lt_of_cell? w _ hw238_3)).trans hw238_3), ((HB.out.cell (World.block_lt_of_cell? w _ hw239_0)).trans hw239_0), ((HB.out.cell (World.block_lt_of_cell? w _ hw239_1)).trans hw239_1), ((HB.out.cell (World.block_lt_of_cell? w _ hw239_2)).trans hw239_2), ((HB.out.cell (World.block_lt_of_cell? w _ hw239_3)).trans hw239_3)⟩ (fun hHeld => ?_); refine with_tabW spec_FollowPairs.tab22 spec_FollowPairs.bits22 (fun HT_ HW_ => ?_)
                            generalize wc.drew = w59 at HO_5 HO_10 BK211 BK212 HB hx238_0 hx238_1 hx238_2 hx238_3 hx239_0 hx239_1 hx239_2 hx239_3 hHeld ⊢
                            refine pure_ (i := 0) (N := some 89) (v := ?_) (a' := ?_) (bm 14 1) rfl rfl (any_of HT_.out (by kernel_rfl)) (fun _ _ _ h => h) (Or.inl ⟨by rfl, ?_⟩) ?_ ?_
                            rotate_left
                            ·intro w'
                             go_simp
                             with_reducible rfl
                            rotate_left
                            ·simp only [Act.put, List.setIfInBounds_toArray, List.set_cons_zero, List.set_cons_succ, i64_w, i32_w]
                             rfl
                            refine pure_ (i := 2) (N := some 91) (v := ?_) (a' := ?_) (bm 14 5) rfl rfl (any_of HT_.out (by kernel_rfl)) (fun _ _ _ h => h) (Or.inl ⟨by rfl, ?_⟩) ?_ ?_
                            rotate_left
                            ·intro w'
                             go_simp
                             with_reducible rfl
                            rotate_left
                            ·simp only [Act.put, List.setIfInBounds_toArray, List.set_cons_zero, List.set_cons_succ, i64_w, i32_w]
                             rfl
                            refine pure_ (i := 6) (N := some 95) (v := ?_) (a' := ?_) (bm 14 69) rfl rfl (any_of HT_.out (by kernel_rfl)) (fun _ _ _ h => h) (Or.inl ⟨by rfl, ?_⟩) ?_ ?_
                            rotate_left
                            ·intro w'
                             go_simp
                             with_reducible rfl
                            rotate_left
                            ·simp only [Act.put, List.setIfInBounds_toArray, List.set_cons_zero, List.set_cons_succ, i64_w, i32_w]
                             rfl
                            refine pure_ (i := 8) (N := some 97) (v := ?_) (a' := ?_) (bm 14 325) rfl rfl (any_of HT_.out (by kernel_rfl)) (fun _ _ _ h => h) (Or.inl ⟨by rfl, ?_⟩) ?_ ?_
                            rotate_left
                            ·intro w'
                             go_simp
                             with_reducible rfl
                            rotate_left
                            ·simp only [Act.put, List.setIfInBounds_toArray, List.set_cons_zero, List.set_cons_succ, i64_w, i32_w]
                             rfl
                            refine take_ (i := 1) (N := some 90) (v := ?_) (a' := ?_) (bm 14 327) rfl rfl (take_ofW HT_.out HW_.out (by kernel_rfl)) (fun _ _ _ h => h) (Or.inl ⟨by rfl, ?_⟩) hHeld ?_ ?_
                            rotate_left
                            ·rintro w' ⟨s0, s1, s2, s3, s4, s5, s6, s7, s8, s9, s10, s11, s12, s13⟩
                             go_simp
                             with_reducible rfl
                            rotate_left
                            ·simp only [Act.put, List.setIfInBounds_toArray, List.set_cons_zero, List.set_cons_succ, i64_w, i32_w]
                             rfl
                            refine pure_ (i := 3) (N := some 92) (v := ?_) (a' := ?_) (bm 14 335) rfl rfl (any_of HT_.out (by kernel_rfl)) (fun _ _ _ h => h) (Or.inl ⟨by rfl, ?_⟩) ?_ ?_
                            rotate_left
                            ·intro w'
                             go_simp
                             with_reducible rfl
                            rotate_left
                            ·simp only [Act.put, List.setIfInBounds_toArray, List.set_cons_zero, List.set_cons_succ, i64_w, i32_w]
                             rfl
                            refine pure_ (i := 4) (N := some 93) (v := ?_) (a' := ?_) (bm 14 351) rfl rfl (any_of HT_.out (by kernel_rfl)) (fun _ _ _ h => h) (Or.inl ⟨by rfl, ?_⟩) ?_ ?_
                            rotate_left
                            ·intro w'
                             go_simp
                             with_reducible rfl
                            rotate_left
                            ·simp only [Act.put, List.setIfInBounds_toArray, List.set_cons_zero, List.set_cons_succ, i64_w, i32_w]
                             rfl
                            refine take_ (i := 5) (N := some 94) (v := ?_) (a' := ?_) (bm 14 383) rfl rfl (take_ofW HT_.out HW_.out (by kernel_rfl)) (fun _ _ _ h => h) (Or.inl ⟨by rfl, ?_⟩) hHeld ?_ ?_
                            rotate_left
                            ·rintro w' ⟨s0, s1, s2, s3, s4, s5, s6, s7, s8, s9, s10, s11, s12, s13⟩
                             go_simp
                             with_reducible rfl
                            rotate_left
                            ·simp only [Act.put, List.setIfInBounds_toArray, List.set_cons_zero, List.set_cons_succ, i64_w, i32_w]
                             rfl
                            refine take_ (i := 7) (N := some 96) (v := ?_) (a' := ?_) (bm 14 511) rfl rfl (take_ofW HT_.out HW_.out (by kernel_rfl)) (fun _ _ _ h => h) (Or.inl ⟨by rfl, ?_⟩) hHeld ?_ ?_
                            rotate_left
                            ·rintro w' ⟨s0, s1, s2, s3, s4, s5, s6, s7, s8, s9, s10, s11, s12, s13⟩
                             go_simp
                             with_reducible rfl
                            rotate_left
                            ·simp only [Act.put, List.setIfInBounds_toArray, List.set_cons_zero, List.set_cons_succ, i64_w, i32_w]
                             rfl
                            refine pure_ (i := 9) (N := some 98) (v := ?_) (a' := ?_) (bm 14 1023) rfl rfl (any_of HT_.out (by kernel_rfl)) (fun _ _ _ h => h) (Or.inl ⟨by rfl, ?_⟩) ?_ ?_
                            rotate_left
                            ·intro w'
                             go_simp
                             with_reducible rfl
                            rotate_left
                            ·simp only [Act.put, List.setIfInBounds_toArray, List.set_cons_zero, List.set_cons_succ, i64_w, i32_w]
                             rfl
                            refine pure_ (i := 10) (N := some 99) (v := ?_) (a' := ?_) (bm 14 2047) rfl rfl (any_of HT_.out (by kernel_rfl)) (fun _ _ _ h => h) (Or.inl ⟨by rfl, ?_⟩) ?_ ?_
                            rotate_left
                            ·intro w'
                             go_simp
                             with_reducible rfl
                            rotate_left
                            ·simp only [Act.put, List.setIfInBounds_toArray, List.set_cons_zero, List.set_cons_succ, i64_w, i32_w]
                             rfl
                            refine take_ (i := 11) (N := some 100) (v := ?_) (a' := ?_) (bm 14 4095) rfl rfl (take_ofW HT_.out HW_.out (by kernel_rfl)) (fun _ _ _ h => h) (Or.inl ⟨by rfl, ?_⟩) hHeld ?_ ?_
                            rotate_left
                            ·rintro w' ⟨s0, s1, s2, s3, s4, s5, s6, s7, s8, s9, s10, s11, s12, s13⟩
                             go_simp
                             with_reducible rfl
                            rotate_left
                            ·simp only [Act.put, List.setIfInBounds_toArray, List.set_cons_zero, List.set_cons_succ, i64_w, i32_w]
                             rfl
                            refine one_ (i := 12) (N := some 101) (bm 14 8191) rfl rfl (one_of HT_.out (by kernel_rfl)) (by decide) (fun K hK => ?_)
                            refine Kd.R_lit_step (Kd.int .i64) _ 3 ?hg (N := 101) ?hd (xs := ([(rd_T64 l0_2 t235).f3, (rd_T64 l1_2 t237).f3] : List Int)) (inner := [.int .i64 ((rd_T64 l0_2 t235).f3), .int .i64 ((rd_T64 l1_2 t237).f3)]) (ok := fun _ => True) (okp := fun _ => True) ?hr ?hp (fun _ hk => hk) trivial (Below.refl _ _) (Nat.le_refl _) (by simp) ?_; (case hd => rfl); (case hg => rfl); (case hr => first | (go_simp; done) | (go_simp; rfl)); (case hp => exact (Reps.one (show Kd.M (Kd.int .i64) _ _ _ ((rd_T64 l0_2 t235).f3) [.int .i64 ((rd_T64 l0_2 t235).f3)] from rfl) (Reps.one (show Kd.M (Kd.int .i64) _ _ _ ((rd_T64 l1_2 t237).f3) [.int .i64 ((rd_T64 l1_2 t237).f3)] from rfl) (Reps.none _ _))))
                            intro v241 w60 ho61 hb hg_ hnew_
                            clear hg_ hnew_
                            (first | rw [← Ny240.out] at ho61 | (simp only [Int.reduceToNat] at ho61; rw [← Ny240.out] at ho61))
                            have n0_ := Aside0.mk (Kd.S_elder' (zS HO_5) (Kd.R_base ho61) hb)
                            have n1_ := Aside0.mk (Kd.R_elder' (zR HO_10) (Kd.R_base ho61) hb)
                            have n2_ := Aside0.mk (Kd.R_lower (Kd.R_new' ho61 (Kd.R_lt (zR HO_10))) (below_size (zB HB)))
                            have n3_ := kB BK211 hb
                            have n4_ := kB BK212 hb
                            have n5_ := bS HB hb
                            clear HO_5
                            clear HO_10
                            clear BK211
                            clear BK212
                            clear HB
                            have HO_5 := n0_
                            have HO_10 := n1_
                            have HO242 := n2_
                            have BK211 := n3_
                            have BK212 := n4_
                            have HB := n5_
                            clear n0_ n1_ n2_ n3_ n4_ n5_
                            clear hb ho61
                            refine hK.out _ _ ⟨bc0 BK211, bc1 BK211, bc2 BK211, bc0 BK212, bc1 BK212, bc2 BK212, ((HB.out.cell (World.block_lt_of_cell? w _ hw238_0)).trans hw238_0), ((HB.out.cell (World.block_lt_of_cell? w _ hw238_1)).trans hw238_1), ((HB.out.cell (World.block_lt_of_cell? w _ hw238_2)).trans hw238_2), ((HB.out.cell (World.block_lt_of_cell? w _ hw238_3)).trans hw238_3), ((HB.out.cell (World.block_lt_of_cell? w _ hw239_0)).trans hw239_0), ((HB.out.cell (World.block_lt_of_cell? w _ hw239_1)).trans hw239_1), ((HB.out.cell (World.block_lt_of_cell? w _ hw239_2)).trans hw239_2), ((HB.out.cell (World.block_lt_of_cell? w _ hw239_3)).trans hw239_3)⟩ (fun hHeld => ?_)
                            clear hK K
                            refine norm_ (a' := ?_) ?_ ?_
                            rotate_left
                            ·show Act.put _ (some 101) _ = _
                             simp only [Act.put, List.setIfInBounds_toArray, List.set_cons_zero, List.set_cons_succ, i64_w, i32_w]
                             rfl
                            refine pure_ (i := 13) (N := some 14) (v := ?_) (a' := ?_) (bm 14 16383) rfl rfl (any_of HT_.out (by kernel_rfl)) (fun _ _ _ h => h) (Or.inl ⟨by rfl, ?_⟩) ?_ ?_
                            rotate_left
                            ·intro w'
                             go_simp
                             with_reducible rfl
                            rotate_left
                            ·simp only [Act.put, List.setIfInBounds_toArray, List.set_cons_zero, List.set_cons_succ, i64_w, i32_w]
                             rfl
                            refine done_ (done_of HT_.out (by kernel_rfl)) ?_
                            try clear hHeld
                            obtain ⟨Ao62, co62, eo62⟩ := Kd.S_slice HO_5.out
                            subst eo62
                            obtain ⟨Ao63, co63, eo63⟩ := Kd.R_slice HO242.out
                            subst eo63
                            try go_wp2_with (first | ((with_reducible refine gate_callee (f := 38) rfl ?_); refine goesL_ (some 104) rfl rfl Try.func38 (by kernel_rfl) rfl #[.slice Ao62 x5_5.length co62, .slice Ao63 y240.length co63] rfl zG ?_; (with_reducible refine (spec_l14Has.calls kj44 _ _ x5_5 _ _ y240 true _ ?side1 ?side2 ?side3 ?side4 A57.out).mono ?_); (case side1 => repeat (first | exact (Kd.S_reads' HO_5.out).2.2 | (with_reducible refine Kd.C_alloc ?_ _) | (with_reducible refine Kd.C_drewN ?_ _) | (with_reducible refine Kd.C_drew ?_))); (case side2 => exact (Kd.S_reads' HO_5.out).2.1); (case side3 => repeat (first | exact (Kd.R_reads' HO242.out).2.2 | (with_reducible refine Kd.C_alloc ?_ _) | (with_reducible refine Kd.C_drewN ?_ _) | (with_reducible refine Kd.C_drew ?_))); (case side4 => exact (Kd.R_reads' HO242.out).2.1); rintro e w' ⟨rfl, ⟨nd, rfl⟩⟩; refine ⟨_, rfl, ?_⟩))
                            go_roundg kj44
                            case measure => have := HJ2.out; have := HK2.out; have := HK3.out; have := HJ31.out; have := HK5.out; have := HJ44.out; omega
                            case rel => exact ⟨(x5_5), (wrap64 (x11_5 + 1)), zF, H', ⟨by have := HJ2.out; have := HK2.out; have := HK3.out; have := HJ31.out; have := HK5.out; have := HJ44.out; omega⟩, ⟨by (with_reducible repeat (first | apply Kd.S_alloc | apply Kd.S_drewN | apply Kd.S_drew)); exact Kd.S_mono HO_5.out (fun _ hk => hk.1)⟩, ⟨by (with_reducible repeat (first | apply Kd.R_alloc | apply Kd.R_drewN | apply Kd.R_drew)); exact Kd.R_mono HO_10.out (fun _ hk => trivial)⟩, ⟨zK BK211⟩, ⟨zK BK212⟩, ⟨zB HB⟩⟩
                           ·replace c58 := Bool.eq_false_iff.mpr c58
                            subst c58
                            have H1 : (if x5_5.length < 5864062014805 then (spec_FollowPairs.l2 kj44 (x5_5 ++ [y240]) x6_2 (rd (rd_L4 x5_2 x6_2) 0) (rd (rd_L4 x5_2 x6_2) 1) x9_3 x10_31 (wrap64 (x11_5 + 1)) a0_0 l0_1 l0_2 a1_0 l1_1 l1_2) else (none)) = some r := by rw [if_neg (show ¬ (false = true) by decide)] at H; exact H
                            clear H
                            have H := H1
                            clear H1
                            by_cases c64 : x5_5.length < 5864062014805
                            ·rw [if_pos c64] at H
                             have LMc64 := Aside0.mk c64
                             clear c64
                             obtain ⟨y244, hy244⟩ : ∃ y_ : List (List Int), y_ = (x5_5 ++ [y240]) := ⟨_, rfl⟩
                             replace H : (spec_FollowPairs.l2 kj44 y244 x6_2 (rd (rd_L4 x5_2 x6_2) 0) (rd (rd_L4 x5_2 x6_2) 1) x9_3 x10_31 (wrap64 (x11_5 + 1)) a0_0 l0_1 l0_2 a1_0 l1_1 l1_2) = some r := by first | (rw [hy244]; with_reducible exact H) | (have H2_ := (Option.bind_some _ _).symm.trans H; rw [hy244]; with_reducible exact H2_) | (have H2_ := (Option.bind_some _ _).symm.trans H; with_reducible exact H2_) | with_reducible exact H | (rw [hy244]; exact H) | exact H
                             have Ny244 := Aside0.mk hy244
                             clear hy244
                             have H' := Aside0.mk H
                             clear H
                             try go_wp2
                             have n0_ := Aside0.mk (Kd.S_drew HO_5.out)
                             have n1_ := Aside0.mk (Kd.R_drew HO_10.out)
                             have n2_ := Aside0.mk (blk_drew BK211.out)
                             have n3_ := Aside0.mk (blk_drew BK212.out)
                             have n4_ := Aside0.mk (below_drew1 HB.out)
                             clear HO_5
                             clear HO_10
                             clear BK211
                             clear BK212
                             clear HB
                             have HO_5 := n0_
                             have HO_10 := n1_
                             have BK211 := n2_
                             have BK212 := n3_
                             have HB := n4_
                             clear n0_ n1_ n2_ n3_ n4_
                             have p238 : 0 ≤ (t235 : Int) := of_decide_eq_true (by first | (with_reducible assumption) | assumption)
                             have q238 : t235 < (l0_2.length : Int) := of_decide_eq_true (by first | (with_reducible assumption) | assumption)
                             obtain ⟨ad238, e238, hx238_0, hx238_1, hx238_2, hx238_3⟩ := at_T64 HR0_2.out t235 p238 q238
                             have hw238_3 := hx238_3
                             have hw238_2 := hx238_2
                             have hw238_1 := hx238_1
                             have hw238_0 := hx238_0
                             cases e238
                             replace hx238_0 := (HB.out.cell (World.block_lt_of_cell? w _ hx238_0)).trans hx238_0
                             replace hx238_1 := (HB.out.cell (World.block_lt_of_cell? w _ hx238_1)).trans hx238_1
                             replace hx238_2 := (HB.out.cell (World.block_lt_of_cell? w _ hx238_2)).trans hx238_2
                             replace hx238_3 := (HB.out.cell (World.block_lt_of_cell? w _ hx238_3)).trans hx238_3
                             replace p238 := eq_true p238
                             replace q238 := eq_true q238
                             have p239 : 0 ≤ (t237 : Int) := of_decide_eq_true (by first | (with_reducible assumption) | assumption)
                             have q239 : t237 < (l1_2.length : Int) := of_decide_eq_true (by first | (with_reducible assumption) | assumption)
                             obtain ⟨ad239, e239, hx239_0, hx239_1, hx239_2, hx239_3⟩ := at_T64 HR1_2.out t237 p239 q239
                             have hw239_3 := hx239_3
                             have hw239_2 := hx239_2
                             have hw239_1 := hx239_1
                             have hw239_0 := hx239_0
                             cases e239
                             replace hx239_0 := (HB.out.cell (World.block_lt_of_cell? w _ hx239_0)).trans hx239_0
                             replace hx239_1 := (HB.out.cell (World.block_lt_of_cell? w _ hx239_1)).trans hx239_1
                             replace hx239_2 := (HB.out.cell (World.block_lt_of_cell? w _ hx239_2)).trans hx239_2
                             replace hx239_3 := (HB.out.cell (World.block_lt_of_cell? w _ hx239_3)).trans hx239_3
                             replace p239 := eq_true p239
                             replace q239 := eq_true q239
                             refine start_ (n := 14) (S := fun w' => w'.cell? ⟨gb211, 0, none⟩ = some (.int .i64 a0_0) ∧ w'.cell? ⟨gb211, 1, none⟩ = some (.slice A0_1 l0_1.length c0_1) ∧ w'.cell? ⟨gb211, 2, none⟩ = some (.slice (some ad238) l0_2.length c0_2) ∧ w'.cell? ⟨gb212, 0, none⟩ = some (.int .i64 a1_0) ∧ w'.cell? ⟨gb212, 1, none⟩ = some (.slice A1_1 l1_1.length c1_1) ∧ w'.cell? ⟨gb212, 2, none⟩ = some (.slice (some ad239) l1_2.length c1_2) ∧ w'.cell? (ad238.add ((t235).toNat * 4)) = some (.int .i64 ((rd_T64 l0_2 t235).f0)) ∧ w'.cell? ⟨(ad238.add ((t235).toNat * 4)).block, (ad238.add ((t235).toNat * 4)).off + 1, none⟩ = some (.bool ((rd_T64 l0_2 t235).f1)) ∧ w'.cell? ⟨(ad238.add ((t235).toNat * 4)).block, (ad238.add ((t235).toNat * 4)).off + 2, none⟩ = some (.int .i64 ((rd_T64 l0_2 t235).f2)) ∧ w'.cell? ⟨(ad238.add ((t235).toNat * 4)).block, (ad238.add ((t235).toNat * 4)).off + 3, none⟩ = some (.int .i64 ((rd_T64 l0_2 t235).f3)) ∧ w'.cell? (ad239.add ((t237).toNat * 4)) = some (.int .i64 ((rd_T64 l1_2 t237).f0)) ∧ w'.cell? ⟨(ad239.add ((t237).toNat * 4)).block, (ad239.add ((t237).toNat * 4)).off + 1, none⟩ = some (.bool ((rd_T64 l1_2 t237).f1)) ∧ w'.cell? ⟨(ad239.add ((t237).toNat * 4)).block, (ad239.add ((t237).toNat * 4)).off + 2, none⟩ = some (.int .i64 ((rd_T64 l1_2 t237).f2)) ∧ w'.cell? ⟨(ad239.add ((t237).toNat * 4)).block, (ad239.add ((t237).toNat * 4)).off + 3, none⟩ = some (.int .i64 ((rd_T64 l1_2 t237).f3))) (ds := []) (bm 14 0) (by kernel_rfl) rfl (bm0 _) ⟨bc0 BK211, bc1 BK211, bc2 BK211, bc0 BK212, bc1 BK212, bc2 BK212, ((HB.out.cell (World.block_lt_of_cell? w _ hw238_0)).trans hw238_0), ((HB.out.cell (World.block_lt_of_cell? w _ hw238_1)).trans hw238_1), ((HB.out.cell (World.block_lt_of_cell? w _ hw238_2)).trans hw238_2), ((HB.out.cell (World.block_lt_of_cell? w _ hw238_3)).trans hw238_3), ((HB.out.cell (World.block_lt_of_cell? w _ hw239_0)).trans hw239_0), ((HB.out.cell (World.block_lt_of_cell? w _ hw239_1)).trans hw239_1), ((HB.out.cell (World.block_lt_of_cell? w _ hw239_2)).trans hw239_2), ((HB.out.cell (World.block_lt_of_cell? w _ hw239_3)).trans hw239_3)⟩ (fun hHeld => ?_); refine with_tabW spec_FollowPairs.tab22 spec_FollowPairs.bits22 (fun HT_ HW_ => ?_)
                             generalize wc.drew = w65 at HO_5 HO_10 BK211 BK212 HB hx238_0 hx238_1 hx238_2 hx238_3 hx239_0 hx239_1 hx239_2 hx239_3 hHeld ⊢
                             refine pure_ (i := 0) (N := some 89) (v := ?_) (a' := ?_) (bm 14 1) rfl rfl (any_of HT_.out (by kernel_rfl)) (fun _ _ _ h => h) (Or.inl ⟨by rfl, ?_⟩) ?_ ?_
                             rotate_left
                             ·intro w'
                              go_simp
                              with_reducible rfl
                             rotate_left
                             ·simp only [Act.put, List.setIfInBounds_toArray, List.set_cons_zero, List.set_cons_succ, i64_w, i32_w]
                              rfl
                             refine pure_ (i := 2) (N := some 91) (v := ?_) (a' := ?_) (bm 14 5) rfl rfl (any_of HT_.out (by kernel_rfl)) (fun _ _ _ h => h) (Or.inl ⟨by rfl, ?_⟩) ?_ ?_
                             rotate_left
                             ·intro w'
                              go_simp
                              with_reducible rfl
                             rotate_left
                             ·simp only [Act.put, List.setIfInBounds_toArray, List.set_cons_zero, List.set_cons_succ, i64_w, i32_w]
                              rfl
                             refine pure_ (i := 6) (N := some 95) (v := ?_) (a' := ?_) (bm 14 69) rfl rfl (any_of HT_.out (by kernel_rfl)) (fun _ _ _ h => h) (Or.inl ⟨by rfl, ?_⟩) ?_ ?_
                             rotate_left
                             ·intro w'
                              go_simp
                              with_reducible rfl
                             rotate_left
                             ·simp only [Act.put, List.setIfInBounds_toArray, List.set_cons_zero, List.set_cons_succ, i64_w, i32_w]
                              rfl
                             refine pure_ (i := 8) (N := some 97) (v := ?_) (a' := ?_) (bm 14 325) rfl rfl (any_of HT_.out (by kernel_rfl)) (fun _ _ _ h => h) (Or.inl ⟨by rfl, ?_⟩) ?_ ?_
                             rotate_left
                             ·intro w'
                              go_simp
                              with_reducible rfl
                             rotate_left
                             ·simp only [Act.put, List.setIfInBounds_toArray, List.set_cons_zero, List.set_cons_succ, i64_w, i32_w]
                              rfl
                             refine take_ (i := 1) (N := some 90) (v := ?_) (a' := ?_) (bm 14 327) rfl rfl (take_ofW HT_.out HW_.out (by kernel_rfl)) (fun _ _ _ h => h) (Or.inl ⟨by rfl, ?_⟩) hHeld ?_ ?_
                             rotate_left
                             ·rintro w' ⟨s0, s1, s2, s3, s4, s5, s6, s7, s8, s9, s10, s11, s12, s13⟩
                              go_simp
                              with_reducible rfl
                             rotate_left
                             ·simp only [Act.put, List.setIfInBounds_toArray, List.set_cons_zero, List.set_cons_succ, i64_w, i32_w]
                              rfl
                             refine pure_ (i := 3) (N := some 92) (v := ?_) (a' := ?_) (bm 14 335) rfl rfl (any_of HT_.out (by kernel_rfl)) (fun _ _ _ h => h) (Or.inl ⟨by rfl, ?_⟩) ?_ ?_
                             rotate_left
                             ·intro w'
                              go_simp
                              with_reducible rfl
                             rotate_left
                             ·simp only [Act.put, List.setIfInBounds_toArray, List.set_cons_zero, List.set_cons_succ, i64_w, i32_w]
                              rfl
                             refine pure_ (i := 4) (N := some 93) (v := ?_) (a' := ?_) (bm 14 351) rfl rfl (any_of HT_.out (by kernel_rfl)) (fun _ _ _ h => h) (Or.inl ⟨by rfl, ?_⟩) ?_ ?_
                             rotate_left
                             ·intro w'
                              go_simp
                              with_reducible rfl
                             rotate_left
                             ·simp only [Act.put, List.setIfInBounds_toArray, List.set_cons_zero, List.set_cons_succ, i64_w, i32_w]
                              rfl
                             refine take_ (i := 5) (N := some 94) (v := ?_) (a' := ?_) (bm 14 383) rfl rfl (take_ofW HT_.out HW_.out (by kernel_rfl)) (fun _ _ _ h => h) (Or.inl ⟨by rfl, ?_⟩) hHeld ?_ ?_
                             rotate_left
                             ·rintro w' ⟨s0, s1, s2, s3, s4, s5, s6, s7, s8, s9, s10, s11, s12, s13⟩
                              go_simp
                              with_reducible rfl
                             rotate_left
                             ·simp only [Act.put, List.setIfInBounds_toArray, List.set_cons_zero, List.set_cons_succ, i64_w, i32_w]
                              rfl
                             refine take_ (i := 7) (N := some 96) (v := ?_) (a' := ?_) (bm 14 511) rfl rfl (take_ofW HT_.out HW_.out (by kernel_rfl)) (fun _ _ _ h => h) (Or.inl ⟨by rfl, ?_⟩) hHeld ?_ ?_
                             rotate_left
                             ·rintro w' ⟨s0, s1, s2, s3, s4, s5, s6, s7, s8, s9, s10, s11, s12, s13⟩
                              go_simp
                              with_reducible rfl
                             rotate_left
                             ·simp only [Act.put, List.setIfInBounds_toArray, List.set_cons_zero, List.set_cons_succ, i64_w, i32_w]
                              rfl
                             refine pure_ (i := 9) (N := some 98) (v := ?_) (a' := ?_) (bm 14 1023) rfl rfl (any_of HT_.out (by kernel_rfl)) (fun _ _ _ h => h) (Or.inl ⟨by rfl, ?_⟩) ?_ ?_
                             rotate_left
                             ·intro w'
                              go_simp
                              with_reducible rfl
                             rotate_left
                             ·simp only [Act.put, List.setIfInBounds_toArray, List.set_cons_zero, List.set_cons_succ, i64_w, i32_w]
                              rfl
                             refine pure_ (i := 10) (N := some 99) (v := ?_) (a' := ?_) (bm 14 2047) rfl rfl (any_of HT_.out (by kernel_rfl)) (fun _ _ _ h => h) (Or.inl ⟨by rfl, ?_⟩) ?_ ?_
                             rotate_left
                             ·intro w'
                              go_simp
                              with_reducible rfl
                             rotate_left
                             ·simp only [Act.put, List.setIfInBounds_toArray, List.set_cons_zero, List.set_cons_succ, i64_w, i32_w]
                              rfl
                             refine take_ (i := 11) (N := some 100) (v := ?_) (a' := ?_) (bm 14 4095) rfl rfl (take_ofW HT_.out HW_.out (by kernel_rfl)) (fun _ _ _ h => h) (Or.inl ⟨by rfl, ?_⟩) hHeld ?_ ?_
                             rotate_left
                             ·rintro w' ⟨s0, s1, s2, s3, s4, s5, s6, s7, s8, s9, s10, s11, s12, s13⟩
                              go_simp
                              with_reducible rfl
                             rotate_left
                             ·simp only [Act.put, List.setIfInBounds_toArray, List.set_cons_zero, List.set_cons_succ, i64_w, i32_w]
                              rfl
                             refine one_ (i := 12) (N := some 101) (bm 14 8191) rfl rfl (one_of HT_.out (by kernel_rfl)) (by decide) (fun K hK => ?_)
                             refine Kd.R_lit_step (Kd.int .i64) _ 3 ?hg (N := 101) ?hd (xs := ([(rd_T64 l0_2 t235).f3, (rd_T64 l1_2 t237).f3] : List Int)) (inner := [.int .i64 ((rd_T64 l0_2 t235).f3), .int .i64 ((rd_T64 l1_2 t237).f3)]) (ok := fun _ => True) (okp := fun _ => True) ?hr ?hp (fun _ hk => hk) trivial (Below.refl _ _) (Nat.le_refl _) (by simp) ?_; (case hd => rfl); (case hg => rfl); (case hr => first | (go_simp; done) | (go_simp; rfl)); (case hp => exact (Reps.one (show Kd.M (Kd.int .i64) _ _ _ ((rd_T64 l0_2 t235).f3) [.int .i64 ((rd_T64 l0_2 t235).f3)] from rfl) (Reps.one (show Kd.M (Kd.int .i64) _ _ _ ((rd_T64 l1_2 t237).f3) [.int .i64 ((rd_T64 l1_2 t237).f3)] from rfl) (Reps.none _ _))))
                             intro v241 w66 ho67 hb hg_ hnew_
                             clear hg_ hnew_
                             (first | rw [← Ny240.out] at ho67 | (simp only [Int.reduceToNat] at ho67; rw [← Ny240.out] at ho67))
                             have n0_ := Aside0.mk (Kd.S_elder' (zS HO_5) (Kd.R_base ho67) hb)
                             have n1_ := Aside0.mk (Kd.R_elder' (zR HO_10) (Kd.R_base ho67) hb)
                             have n2_ := Aside0.mk (Kd.R_lower (Kd.R_new' ho67 (Kd.R_lt (zR HO_10))) (below_size (zB HB)))
                             have n3_ := kB BK211 hb
                             have n4_ := kB BK212 hb
                             have n5_ := bS HB hb
                             clear HO_5
                             clear HO_10
                             clear BK211
                             clear BK212
                             clear HB
                             have HO_5 := n0_
                             have HO_10 := n1_
                             have HO242 := n2_
                             have BK211 := n3_
                             have BK212 := n4_
                             have HB := n5_
                             clear n0_ n1_ n2_ n3_ n4_ n5_
                             clear hb ho67
                             refine hK.out _ _ ⟨bc0 BK211, bc1 BK211, bc2 BK211, bc0 BK212, bc1 BK212, bc2 BK212, ((HB.out.cell (World.block_lt_of_cell? w _ hw238_0)).trans hw238_0), ((HB.out.cell (World.block_lt_of_cell? w _ hw238_1)).trans hw238_1), ((HB.out.cell (World.block_lt_of_cell? w _ hw238_2)).trans hw238_2), ((HB.out.cell (World.block_lt_of_cell? w _ hw238_3)).trans hw238_3), ((HB.out.cell (World.block_lt_of_cell? w _ hw239_0)).trans hw239_0), ((HB.out.cell (World.block_lt_of_cell? w _ hw239_1)).trans hw239_1), ((HB.out.cell (World.block_lt_of_cell? w _ hw239_2)).trans hw239_2), ((HB.out.cell (World.block_lt_of_cell? w _ hw239_3)).trans hw239_3)⟩ (fun hHeld => ?_)
                             clear hK K
                             refine norm_ (a' := ?_) ?_ ?_
                             rotate_left
                             ·show Act.put _ (some 101) _ = _
                              simp only [Act.put, List.setIfInBounds_toArray, List.set_cons_zero, List.set_cons_succ, i64_w, i32_w]
                              rfl
                             refine pure_ (i := 13) (N := some 14) (v := ?_) (a' := ?_) (bm 14 16383) rfl rfl (any_of HT_.out (by kernel_rfl)) (fun _ _ _ h => h) (Or.inl ⟨by rfl, ?_⟩) ?_ ?_
                             rotate_left
                             ·intro w'
                              go_simp
                              with_reducible rfl
                             rotate_left
                             ·simp only [Act.put, List.setIfInBounds_toArray, List.set_cons_zero, List.set_cons_succ, i64_w, i32_w]
                              rfl
                             refine done_ (done_of HT_.out (by kernel_rfl)) ?_
                             try clear hHeld
                             obtain ⟨Ao68, co68, eo68⟩ := Kd.S_slice HO_5.out
                             subst eo68
                             obtain ⟨Ao69, co69, eo69⟩ := Kd.R_slice HO242.out
                             subst eo69
                             try go_wp2_with (first | ((with_reducible refine gate_callee (f := 38) rfl ?_); refine goesL_ (some 104) rfl rfl Try.func38 (by kernel_rfl) rfl #[.slice Ao68 x5_5.length co68, .slice Ao69 y240.length co69] rfl zG ?_; (with_reducible refine (spec_l14Has.calls kj44 _ _ x5_5 _ _ y240 false _ ?side1 ?side2 ?side3 ?side4 A57.out).mono ?_); (case side1 => repeat (first | exact (Kd.S_reads' HO_5.out).2.2 | (with_reducible refine Kd.C_alloc ?_ _) | (with_reducible refine Kd.C_drewN ?_ _) | (with_reducible refine Kd.C_drew ?_))); (case side2 => exact (Kd.S_reads' HO_5.out).2.1); (case side3 => repeat (first | exact (Kd.R_reads' HO242.out).2.2 | (with_reducible refine Kd.C_alloc ?_ _) | (with_reducible refine Kd.C_drewN ?_ _) | (with_reducible refine Kd.C_drew ?_))); (case side4 => exact (Kd.R_reads' HO242.out).2.1); rintro e w' ⟨rfl, ⟨nd, rfl⟩⟩; refine ⟨_, rfl, ?_⟩) | ((with_reducible refine gate_builtin (b := .append) (xs := #[.tmp 106, .tmp 108]) rfl ?_); at_builtin; refine Kd.S_append (Kd.slice 3 (Kd.int .i64)) (w0 := w) w.heap.size rfl (.tmp 106) (.tmp 108) 27 38 (.slice none 0 0) 24 rfl Try.underlying27 info38 rfl (by decide) (by omega) (.slice Ao68 x5_5.length co68) x5_5 y240 [.slice Ao69 y240.length co69] (fun k_ => some k_ ≠ (.slice (some ad234) x10_31.length co46 : Value).ownBlock) (fun k_ => some k_ = (.slice Ao69 y240.length co69 : Value).ownBlock) rfl rfl ?aP (fun k_ hk_ => ((Kd.R_mono (ok' := fun k_ => ((fun k_ => some k_ ≠ (.slice (some ad234) x10_31.length co46 : Value).ownBlock)) k_ ∧ some k_ ≠ (.slice Ao68 x5_5.length co68 : Value).ownBlock) (Kd.R_apart' (HO242.out) (Kd.S_typed HO_5.out) (by decide)) (fun k_ hk => ⟨hk.1.2, hk.2⟩))).1 k_ hk_.symm) ?aF ?aO ?aB ?aS ?aL ?_; (case aP => exact Kd.M_row (Kd.R_mono (Kd.R_tight rfl (Kd.R_mono (ok' := fun k_ => ((fun k_ => some k_ ≠ (.slice (some ad234) x10_31.length co46 : Value).ownBlock)) k_ ∧ some k_ ≠ (.slice Ao68 x5_5.length co68 : Value).ownBlock) (Kd.R_apart' (HO242.out) (Kd.S_typed HO_5.out) (by decide)) (fun k_ hk => ⟨hk.1.2, hk.2⟩))) (fun _ h_ => h_))); (case aB => exact (zB HB)); (case aF => exact (fun k_ hk => Kd.fresh' (Kd.R_lt (zR HO_10)) k_ hk)); (case aO => exact (by (with_reducible repeat (first | apply Kd.S_alloc | apply Kd.S_drewN | apply Kd.S_drew)); exact Kd.S_mono HO_5.out (fun k_ hk => ⟨hk.1, fun e_ => hk.2 e_⟩))); (case aS => exact (below_size (zB HB))); (case aL => have := LMc64.out; omega); intro v245 w70 ho hb hg hat; rw [← Ny244.out] at ho; have n0_ := Aside0.mk (Kd.R_over' (zR HO_10) (Kd.S_typed (zS HO_5)) (by decide) hg); have n1_ := Aside0.mk (blk_grown (g := gb211) (o := .cells #[.int .i64 a0_0, .slice A0_1 l0_1.length c0_1, .slice (some ad238) l0_2.length c0_2] 31 (0, 0)) (zK BK211) hg (Kd.S_ne HO_5.out BK211.out (by decide))); have n2_ := Aside0.mk (blk_grown (g := gb212) (o := .cells #[.int .i64 a1_0, .slice A1_1 l1_1.length c1_1, .slice (some ad239) l1_2.length c1_2] 31 (0, 0)) (zK BK212) hg (Kd.S_ne HO_5.out BK212.out (by decide))); have n3_ := Aside0.mk (hb); have n4_ := Aside0.mk (ho); clear HO_10; clear BK211; clear BK212; clear HB; clear HO_5; clear HO242; have HO_10 := n0_; have BK211 := n1_; have BK212 := n2_; have HB := n3_; have HO246 := n4_; clear n0_ n1_ n2_ n3_ n4_; clear ho hb hg hat))
                             go_roundg kj44
                             case measure => have := HJ2.out; have := HK2.out; have := HK3.out; have := HJ31.out; have := HK5.out; have := HJ44.out; omega
                             case rel => exact ⟨(y244), (wrap64 (x11_5 + 1)), zF, H', ⟨by have := HJ2.out; have := HK2.out; have := HK3.out; have := HJ31.out; have := HK5.out; have := HJ44.out; omega⟩, ⟨zS HO246⟩, ⟨by (with_reducible repeat (first | apply Kd.R_alloc | apply Kd.R_drewN | apply Kd.R_drew)); exact Kd.R_mono HO_10.out (fun _ hk => trivial)⟩, ⟨zK BK211⟩, ⟨zK BK212⟩, ⟨zB HB⟩⟩
                            ·rw [if_neg c64] at H
                             exact absurd H (by simp)
                          ·rw [if_neg c56] at H
                           exact absurd H (by simp)
                         ·rw [if_neg c55] at H
                          exact absurd H (by simp)
                        ·rw [if_neg c54] at H
                         exact absurd H (by simp)
                       ·rw [if_neg c53] at H
                        exact absurd H (by simp)
                   ·rw [if_neg c42] at H
                    exact absurd H (by simp)
                  ·rw [if_neg c41] at H
                   have c41b0 : decide (x11_5 < (x10_31.length : Int)) = false := decide_eq_false c41
                   clear c41
                   have H' := Aside0.mk H
                   clear H
                   obtain ⟨Ao71, co71, eo71⟩ := Kd.R_slice HO_10.out
                   subst eo71
                   go_wp2
                   go_roundg k5
                   case measure => have := HJ2.out; have := HK2.out; have := HK3.out; have := HJ31.out; have := HK5.out; omega
                   case rel => exact ⟨(x5_5), (wrap64 (x9_3 - 1)), zF, H', ⟨by have := HJ2.out; have := HK2.out; have := HK3.out; have := HJ31.out; have := HK5.out; omega⟩, ⟨by (with_reducible repeat (first | apply Kd.S_alloc | apply Kd.S_drewN | apply Kd.S_drew)); exact Kd.S_mono HO_5.out (fun _ hk => trivial)⟩, ⟨zK BK211⟩, ⟨zK BK212⟩, ⟨zB HB⟩⟩
             ·rw [if_neg c30] at H
              have c30b0 : decide (0 ≤ x9_3) = false := decide_eq_false c30
              clear c30
              have H' := Aside0.mk H
              clear H
              go_wp2
              go_roundg k3
              case measure => have := HJ2.out; have := HK2.out; have := HK3.out; omega
              case rel => exact ⟨(x5_3), (wrap64 (x6_2 + 1)), zF, H', ⟨by have := HJ2.out; have := HK2.out; have := HK3.out; omega⟩, ⟨zS HO_5⟩, ⟨zK BK211⟩, ⟨zK BK212⟩, ⟨zB HB⟩⟩
          ·rw [if_neg c28] at H
           exact absurd H (by simp)
         ·rw [if_neg c27] at H
          exact absurd H (by simp)
        ·rw [if_neg c26] at H
         exact absurd H (by simp)
       ·rw [if_neg c25] at H
        have c25b0 : decide (x6_2 < (x5_2.length : Int)) = false := decide_eq_false c25
        clear c25
        obtain rfl := Option.some.inj H
        obtain ⟨Ao72, co72, eo72⟩ := Kd.S_slice HO_5.out
        subst eo72
        go_wp2
        go_ret
        exact ⟨_, by first | rfl | (simp [errW_none, errW_some] <;> rfl) | (simp [*, errW_none, errW_some] <;> rfl), by (with_reducible repeat (first | apply Kd.S_alloc | apply Kd.S_drewN | apply Kd.S_drew)); exact HO_5.out, by repeat (first | (with_reducible first | exact HB.out | apply below_alloc | apply pw_below_drewN | apply below_drew1 | refine below_set ?_ GE211.out | refine below_set ?_ GE212.out) | exact HB.out)⟩
    ·rw [if_neg c20] at H
     exact absurd H (by simp)

end Go.Proofs.Ytmenijbpglknbaa.PFnExactFollows
