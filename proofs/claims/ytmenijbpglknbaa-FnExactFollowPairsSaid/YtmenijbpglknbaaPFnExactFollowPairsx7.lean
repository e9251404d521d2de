-- WRITTEN by pp.py, this session's own wrapper around the print; not trusted: Lean checks it
import Derived.Test.YtmenijbpglknbaaPFnExactFollowPairsx0
import Derived.Test.YtmenijbpglknbaaPFnExactFollowPairsx5
import Derived.Test.YtmenijbpglknbaaPFnExactFollowPairsx6
namespace Go.Proofs.Ytmenijbpglknbaa.PFnExactFollowPairs
open Go.RowKit Go.Proofs.Ytmenijbpglknbaa.Hw Go.Proofs.YtmenijbpglknbaaW.PrintWords Go.Proofs.YtmenijbpglknbaaW.PrintLast Go.Proofs.YtmenijbpglknbaaW.PrintMore
attribute [local go_sem] max2_int min2_int max_two min_two max_three min_three max_four min_four   -- for this text's walks alone
set_option linter.unusedVariables false
set_option linter.unusedSimpArgs false
set_option linter.unusedSectionVars false

/-! ### spec_FollowPairs: function 18 -/
mutual
def spec_FollowPairs.j0 : Nat → List (List Int) → Bool → Int → List Bool → List (S64) → Int → List Bool → List (S64) → Option ((List (List Int)))
 | 0, _, _, _, _, _, _, _, _ => none
 | k + 1, x5, x23, x231000, x231001, x231002, x232000, x232001, x232002 => if x23 = true then (some x5) else (if x5.length < 5864062014805 then (spec_FollowPairs.l0 k (x5 ++ [(([0, 0] : List Int))]) 0 x231000 x231001 x231002 x232000 x232001 x232002) else (none))
def spec_FollowPairs.l0 : Nat → List (List Int) → Int → Int → List Bool → List (S64) → Int → List Bool → List (S64) → Option ((List (List Int)))
 | 0, _, _, _, _, _, _, _, _ => none
 | k + 1, x5, x6, x231000, x231001, x231002, x232000, x232001, x232002 => if x6 < (x5.length : Int) then (if 0 ≤ x6 then (if 0 < ((rd_L4 x5 x6).length : Int) then (if 1 < ((rd_L4 x5 x6).length : Int) then (spec_FollowPairs.l1 k x5 x6 (rd (rd_L4 x5 x6) 0) (rd (rd_L4 x5 x6) 1) 1 x231000 x231001 x231002 x232000 x232001 x232002) else (none)) else (none)) else (none)) else (some x5)
def spec_FollowPairs.l1 : Nat → List (List Int) → Int → Int → Int → Int → Int → List Bool → List (S64) → Int → List Bool → List (S64) → Option ((List (List Int)))
 | 0, _, _, _, _, _, _, _, _, _, _, _ => none
 | k + 1, x5, x6, x7, x8, x9, x231000, x231001, x231002, x232000, x232001, x232002 => if x9 ≥ 0 then ((spec_MovesFrom.f k x231000 x231001 x231002 x7 true).bind fun t247 => (if x9 = 0 then ((spec_MovesFrom.f k x232000 x232001 x232002 x8 false).bind fun t250 => (spec_FollowPairs.j3 k x5 x6 x7 x8 x9 t250 x231000 x231001 x231002 x232000 x232001 x232002)) else (spec_FollowPairs.j3 k x5 x6 x7 x8 x9 t247 x231000 x231001 x231002 x232000 x232001 x232002))) else (spec_FollowPairs.l0 k x5 (wrap64 (x6 + 1)) x231000 x231001 x231002 x232000 x232001 x232002)
def spec_FollowPairs.j3 : Nat → List (List Int) → Int → Int → Int → Int → List Int → Int → List Bool → List (S64) → Int → List Bool → List (S64) → Option ((List (List Int)))
 | 0, _, _, _, _, _, _, _, _, _, _, _, _ => none
 | k + 1, x5, x6, x7, x8, x9, x10, x231000, x231001, x231002, x232000, x232001, x232002 => spec_FollowPairs.l2 k x5 x6 x7 x8 x9 x10 0 x231000 x231001 x231002 x232000 x232001 x232002
def spec_FollowPairs.l2 : Nat → List (List Int) → Int → Int → Int → Int → List Int → Int → Int → List Bool → List (S64) → Int → List Bool → List (S64) → Option ((List (List Int)))
 | 0, _, _, _, _, _, _, _, _, _, _, _, _, _ => none
 | k + 1, x5, x6, x7, x8, x9, x10, x11, x231000, x231001, x231002, x232000, x232001, x232002 => if x11 < (x10.length : Int) then (if 0 ≤ x11 then ((spec_MoveOf.f k x231000 x231001 x231002 x7 (x9 == 1) (rd x10 x11)).bind fun t254 => ((spec_MoveOf.f k x232000 x232001 x232002 x8 (x9 == 1) (rd x10 x11)).bind fun t256 => (if t254 < 0 then (spec_FollowPairs.j5 k x5 x6 x7 x8 x9 x10 x11 t254 t256 true x231000 x231001 x231002 x232000 x232001 x232002) else (spec_FollowPairs.j5 k x5 x6 x7 x8 x9 x10 x11 t254 t256 (decide (t256 < 0)) x231000 x231001 x231002 x232000 x232001 x232002)))) else (none)) else (spec_FollowPairs.l1 k x5 x6 x7 x8 (wrap64 (x9 - 1)) x231000 x231001 x231002 x232000 x232001 x232002)
def spec_FollowPairs.j5 : Nat → List (List Int) → Int → Int → Int → Int → List Int → Int → Int → Int → Bool → Int → List Bool → List (S64) → Int → List Bool → List (S64) → Option ((List (List Int)))
 | 0, _, _, _, _, _, _, _, _, _, _, _, _, _, _, _, _ => none
 | k + 1, x5, x6, x7, x8, x9, x10, x11, x12, x13, x88, x231000, x231001, x231002, x232000, x232001, x232002 => if x88 = true then (spec_FollowPairs.l2 k x5 x6 x7 x8 x9 x10 (wrap64 (x11 + 1)) x231000 x231001 x231002 x232000 x232001 x232002) else (if 0 ≤ x12 then (if x12 < (x231002.length : Int) then (if 0 ≤ x13 then (if x13 < (x232002.length : Int) then ((some (([(rd_T64 x231002 x12).f3, (rd_T64 x232002 x13).f3] : List Int) : List Int)).bind fun y259 => ((spec_l14Has.f k x5 y259).bind fun t262 => (if t262 = true then (spec_FollowPairs.l2 k x5 x6 x7 x8 x9 x10 (wrap64 (x11 + 1)) x231000 x231001 x231002 x232000 x232001 x232002) else (if x5.length < 5864062014805 then (spec_FollowPairs.l2 k (x5 ++ [y259]) x6 x7 x8 x9 x10 (wrap64 (x11 + 1)) x231000 x231001 x231002 x232000 x232001 x232002) else (none))))) else (none)) else (none)) else (none)) else (none))
end
def spec_FollowPairs.f (k : Nat) (a0_0 : Int) (l0_1 : List Bool) (l0_2 : List (S64)) (a1_0 : Int) (l1_1 : List Bool) (l1_2 : List (S64)) : Option ((List (List Int))) := (some (([] : List (List Int)) : List (List Int))).bind fun y232 => ((spec_IsMachine.f k a0_0 l0_1 l0_2).bind fun t235 => (if t235 = true then ((spec_IsMachine.f k a1_0 l1_1 l1_2).bind fun t236 => (spec_FollowPairs.j0 k y232 (!t236) a0_0 l0_1 l0_2 a1_0 l1_1 l1_2)) else (spec_FollowPairs.j0 k y232 true a0_0 l0_1 l0_2 a1_0 l1_1 l1_2)))
theorem spec_FollowPairs.mono_l : ∀ k, (∀ y0 y1 y2 y3 y4 y5 y6 y7, LeO (spec_FollowPairs.j0 k y0 y1 y2 y3 y4 y5 y6 y7) (spec_FollowPairs.j0 (k + 1) y0 y1 y2 y3 y4 y5 y6 y7)) ∧ (∀ y0 y1 y2 y3 y4 y5 y6 y7, LeO (spec_FollowPairs.l0 k y0 y1 y2 y3 y4 y5 y6 y7) (spec_FollowPairs.l0 (k + 1) y0 y1 y2 y3 y4 y5 y6 y7)) ∧ (∀ y0 y1 y2 y3 y4 y5 y6 y7 y8 y9 y10, LeO (spec_FollowPairs.l1 k y0 y1 y2 y3 y4 y5 y6 y7 y8 y9 y10) (spec_FollowPairs.l1 (k + 1) y0 y1 y2 y3 y4 y5 y6 y7 y8 y9 y10)) ∧ (∀ y0 y1 y2 y3 y4 y5 y6 y7 y8 y9 y10 y11, LeO (spec_FollowPairs.j3 k y0 y1 y2 y3 y4 y5 y6 y7 y8 y9 y10 y11) (spec_FollowPairs.j3 (k + 1) y0 y1 y2 y3 y4 y5 y6 y7 y8 y9 y10 y11)) ∧ (∀ y0 y1 y2 y3 y4 y5 y6 y7 y8 y9 y10 y11 y12, LeO (spec_FollowPairs.l2 k y0 y1 y2 y3 y4 y5 y6 y7 y8 y9 y10 y11 y12) (spec_FollowPairs.l2 (k + 1) y0 y1 y2 y3 y4 y5 y6 y7 y8 y9 y10 y11 y12)) ∧ (∀ y0 y1 y2 y3 y4 y5 y6 y7 y8 y9 y10 y11 y12 y13 y14 y15, LeO (spec_FollowPairs.j5 k y0 y1 y2 y3 y4 y5 y6 y7 y8 y9 y10 y11 y12 y13 y14 y15) (spec_FollowPairs.j5 (k + 1) y0 y1 y2 y3 y4 y5 y6 y7 y8 y9 y10 y11 y12 y13 y14 y15))
 | 0 => ⟨fun _ _ _ _ _ _ _ _ r h => by simp [spec_FollowPairs.j0] at h, fun _ _ _ _ _ _ _ _ r h => by simp [spec_FollowPairs.l0] at h, fun _ _ _ _ _ _ _ _ _ _ _ r h => by simp [spec_FollowPairs.l1] at h, fun _ _ _ _ _ _ _ _ _ _ _ _ r h => by simp [spec_FollowPairs.j3] at h, fun _ _ _ _ _ _ _ _ _ _ _ _ _ r h => by simp [spec_FollowPairs.l2] at h, fun _ _ _ _ _ _ _ _ _ _ _ _ _ _ _ _ r h => by simp [spec_FollowPairs.j5] at h⟩
 | k + 1 => by
  obtain ⟨ih0, ih1, ih2, ih3, ih4, ih5⟩ := spec_FollowPairs.mono_l k
  refine ⟨?_, ?_, ?_, ?_, ?_, ?_⟩
  ·intro y0 y1 y2 y3 y4 y5 y6 y7
   unfold spec_FollowPairs.j0
   repeat' first
   | (with_reducible exact ih0 _ _ _ _ _ _ _ _)
   | (with_reducible exact ih1 _ _ _ _ _ _ _ _)
   | (with_reducible exact ih2 _ _ _ _ _ _ _ _ _ _ _)
   | (with_reducible exact ih3 _ _ _ _ _ _ _ _ _ _ _ _)
   | (with_reducible exact ih4 _ _ _ _ _ _ _ _ _ _ _ _ _)
   | (with_reducible exact ih5 _ _ _ _ _ _ _ _ _ _ _ _ _ _ _ _)
   | (with_reducible exact spec_IsMachine.mono _ _ _ _)
   | (with_reducible exact spec_MoveOf.mono _ _ _ _ _ _ _)
   | (with_reducible exact spec_MovesFrom.mono _ _ _ _ _ _)
   | (with_reducible exact spec_l14Has.mono _ _ _)
   | (with_reducible exact LeO.refl _)
   | (with_reducible exact LeO.none _)
   | (with_reducible refine LeO.ite ?_ ?_)
   | (with_reducible refine LeO.bind ?_ (fun _ => ?_))
   | exact ih0 _ _ _ _ _ _ _ _
   | exact ih1 _ _ _ _ _ _ _ _
   | exact ih2 _ _ _ _ _ _ _ _ _ _ _
   | exact ih3 _ _ _ _ _ _ _ _ _ _ _ _
   | exact ih4 _ _ _ _ _ _ _ _ _ _ _ _ _
   | exact ih5 _ _ _ _ _ _ _ _ _ _ _ _ _ _ _ _
   | exact spec_IsMachine.mono _ _ _ _
   | exact spec_MoveOf.mono _ _ _ _ _ _ _
   | exact spec_MovesFrom.mono _ _ _ _ _ _
   | exact spec_l14Has.mono _ _ _
   | exact LeO.none _
   | refine LeO.ite ?_ ?_
   | refine LeO.bind ?_ (fun _ => ?_)
  ·intro y0 y1 y2 y3 y4 y5 y6 y7
   unfold spec_FollowPairs.l0
   repeat' first
   | (with_reducible exact ih0 _ _ _ _ _ _ _ _)
   | (with_reducible exact ih1 _ _ _ _ _ _ _ _)
   | (with_reducible exact ih2 _ _ _ _ _ _ _ _ _ _ _)
   | (with_reducible exact ih3 _ _ _ _ _ _ _ _ _ _ _ _)
   | (with_reducible exact ih4 _ _ _ _ _ _ _ _ _ _ _ _ _)
   | (with_reducible exact ih5 _ _ _ _ _ _ _ _ _ _ _ _ _ _ _ _)
   | (with_reducible exact spec_IsMachine.mono _ _ _ _)
   | (with_reducible exact spec_MoveOf.mono _ _ _ _ _ _ _)
   | (with_reducible exact spec_MovesFrom.mono _ _ _ _ _ _)
   | (with_reducible exact spec_l14Has.mono _ _ _)
   | (with_reducible exact LeO.refl _)
   | (with_reducible exact LeO.none _)
   | (with_reducible refine LeO.ite ?_ ?_)
   | (with_reducible refine LeO.bind ?_ (fun _ => ?_))
   | exact ih0 _ _ _ _ _ _ _ _
   | exact ih1 _ _ _ _ _ _ _ _
   | exact ih2 _ _ _ _ _ _ _ _ _ _ _
   | exact ih3 _ _ _ _ _ _ _ _ _ _ _ _
   | exact ih4 _ _ _ _ _ _ _ _ _ _ _ _ _
   | exact ih5 _ _ _ _ _ _ _ _ _ _ _ _ _ _ _ _
   | exact spec_IsMachine.mono _ _ _ _
   | exact spec_MoveOf.mono _ _ _ _ _ _ _
   | exact spec_MovesFrom.mono _ _ _ _ _ _
   | exact spec_l14Has.mono _ _ _
   | exact LeO.none _
   | refine LeO.ite ?_ ?_
   | refine LeO.bind ?_ (fun _ => ?_)
  ·intro y0 y1 y2 y3 y4 y5 y6 y7 y8 y9 y10
   unfold spec_FollowPairs.l1
   repeat' first
   | (with_reducible exact ih0 _ _ _ _ _ _ _ _)
   | (with_reducible exact ih1 _ _ _ _ _ _ _ _)
   | (with_reducible exact ih2 _ _ _ _ _ _ _ _ _ _ _)
   | (with_reducible exact ih3 _ _ _ _ _ _ _ _ _ _ _ _)
   | (with_reducible exact ih4 _ _ _ _ _ _ _ _ _ _ _ _ _)
   | (with_reducible exact ih5 _ _ _ _ _ _ _ _ _ _ _ _ _ _ _ _)
   | (with_reducible exact spec_IsMachine.mono _ _ _ _)
   | (with_reducible exact spec_MoveOf.mono _ _ _ _ _ _ _)
   | (with_reducible exact spec_MovesFrom.mono _ _ _ _ _ _)
   | (with_reducible exact spec_l14Has.mono _ _ _)
   | (with_reducible exact LeO.refl _)
   | (with_reducible exact LeO.none _)
   | (with_reducible refine LeO.ite ?_ ?_)
   | (with_reducible refine LeO.bind ?_ (fun _ => ?_))
   | exact ih0 _ _ _ _ _ _ _ _
   | exact ih1 _ _ _ _ _ _ _ _
   | exact ih2 _ _ _ _ _ _ _ _ _ _ _
   | exact ih3 _ _ _ _ _ _ _ _ _ _ _ _
   | exact ih4 _ _ _ _ _ _ _ _ _ _ _ _ _
   | exact ih5 _ _ _ _ _ _ _ _ _ _ _ _ _ _ _ _
   | exact spec_IsMachine.mono _ _ _ _
   | exact spec_MoveOf.mono _ _ _ _ _ _ _
   | exact spec_MovesFrom.mono _ _ _ _ _ _
   | exact spec_l14Has.mono _ _ _
   | exact LeO.none _
   | refine LeO.ite ?_ ?_
   | refine LeO.bind ?_ (fun _ => ?_)
  ·intro y0 y1 y2 y3 y4 y5 y6 y7 y8 y9 y10 y11
   unfold spec_FollowPairs.j3
   repeat' first
   | (with_reducible exact ih0 _ _ _ _ _ _ _ _)
   | (with_reducible exact ih1 _ _ _ _ _ _ _ _)
   | (with_reducible exact ih2 _ _ _ _ _ _ _ _ _ _ _)
   | (with_reducible exact ih3 _ _ _ _ _ _ _ _ _ _ _ _)
   | (with_reducible exact ih4 _ _ _ _ _ _ _ _ _ _ _ _ _)
   | (with_reducible exact ih5 _ _ _ _ _ _ _ _ _ _ _ _ _ _ _ _)
   | (with_reducible exact spec_IsMachine.mono _ _ _ _)
   | (with_reducible exact spec_MoveOf.mono _ _ _ _ _ _ _)
   | (with_reducible exact spec_MovesFrom.mono _ _ _ _ _ _)
   | (with_reducible exact spec_l14Has.mono _ _ _)
   | (with_reducible exact LeO.refl _)
   | (with_reducible exact LeO.none _)
   | (with_reducible refine LeO.ite ?_ ?_)
   | (with_reducible refine LeO.bind ?_ (fun _ => ?_))
   | exact ih0 _ _ _ _ _ _ _ _
   | exact ih1 _ _ _ _ _ _ _ _
   | exact ih2 _ _ _ _ _ _ _ _ _ _ _
   | exact ih3 _ _ _ _ _ _ _ _ _ _ _ _
   | exact ih4 _ _ _ _ _ _ _ _ _ _ _ _ _
   | exact ih5 _ _ _ _ _ _ _ _ _ _ _ _ _ _ _ _
   | exact spec_IsMachine.mono _ _ _ _
   | exact spec_MoveOf.mono _ _ _ _ _ _ _
   | exact spec_MovesFrom.mono _ _ _ _ _ _
   | exact spec_l14Has.mono _ _ _
   | exact LeO.none _
   | refine LeO.ite ?_ ?_
   | refine LeO.bind ?_ (fun _ => ?_)
  ·intro y0 y1 y2 y3 y4 y5 y6 y7 y8 y9 y10 y11 y12
   unfold spec_FollowPairs.l2
   repeat' first
   | (with_reducible exact ih0 _ _ _ _ _ _ _ _)
   | (with_reducible exact ih1 _ _ _ _ _ _ _ _)
   | (with_reducible exact ih2 _ _ _ _ _ _ _ _ _ _ _)
   | (with_reducible exact ih3 _ _ _ _ _ _ _ _ _ _ _ _)
   | (with_reducible exact ih4 _ _ _ _ _ _ _ _ _ _ _ _ _)
   | (with_reducible exact ih5 _ _ _ _ _ _ _ _ _ _ _ _ _ _ _ _)
   | (with_reducible exact spec_IsMachine.mono _ _ _ _)
   | (with_reducible exact spec_MoveOf.mono _ _ _ _ _ _ _)
   | (with_reducible exact spec_MovesFrom.mono _ _ _ _ _ _)
   | (with_reducible exact spec_l14Has.mono _ _ _)
   | (with_reducible exact LeO.refl _)
   | (with_reducible exact LeO.none _)
   | (with_reducible refine LeO.ite ?_ ?_)
   | (with_reducible refine LeO.bind ?_ (fun _ => ?_))
   | exact ih0 _ _ _ _ _ _ _ _
   | exact ih1 _ _ _ _ _ _ _ _
   | exact ih2 _ _ _ _ _ _ _ _ _ _ _
   | exact ih3 _ _ _ _ _ _ _ _ _ _ _ _
   | exact ih4 _ _ _ _ _ _ _ _ _ _ _ _ _
   | exact ih5 _ _ _ _ _ _ _ _ _ _ _ _ _ _ _ _
   | exact spec_IsMachine.mono _ _ _ _
   | exact spec_MoveOf.mono _ _ _ _ _ _ _
   | exact spec_MovesFrom.mono _ _ _ _ _ _
   | exact spec_l14Has.mono _ _ _
   | exact LeO.none _
   | refine LeO.ite ?_ ?_
   | refine LeO.bind ?_ (fun _ => ?_)
  ·intro y0 y1 y2 y3 y4 y5 y6 y7 y8 y9 y10 y11 y12 y13 y14 y15
   unfold spec_FollowPairs.j5
   repeat' first
   | (with_reducible exact ih0 _ _ _ _ _ _ _ _)
   | (with_reducible exact ih1 _ _ _ _ _ _ _ _)
   | (with_reducible exact ih2 _ _ _ _ _ _ _ _ _ _ _)
   | (with_reducible exact ih3 _ _ _ _ _ _ _ _ _ _ _ _)
   | (with_reducible exact ih4 _ _ _ _ _ _ _ _ _ _ _ _ _)
   | (with_reducible exact ih5 _ _ _ _ _ _ _ _ _ _ _ _ _ _ _ _)
   | (with_reducible exact spec_IsMachine.mono _ _ _ _)
   | (with_reducible exact spec_MoveOf.mono _ _ _ _ _ _ _)
   | (with_reducible exact spec_MovesFrom.mono _ _ _ _ _ _)
   | (with_reducible exact spec_l14Has.mono _ _ _)
   | (with_reducible exact LeO.refl _)
   | (with_reducible exact LeO.none _)
   | (with_reducible refine LeO.ite ?_ ?_)
   | (with_reducible refine LeO.bind ?_ (fun _ => ?_))
   | exact ih0 _ _ _ _ _ _ _ _
   | exact ih1 _ _ _ _ _ _ _ _
   | exact ih2 _ _ _ _ _ _ _ _ _ _ _
   | exact ih3 _ _ _ _ _ _ _ _ _ _ _ _
   | exact ih4 _ _ _ _ _ _ _ _ _ _ _ _ _
   | exact ih5 _ _ _ _ _ _ _ _ _ _ _ _ _ _ _ _
   | exact spec_IsMachine.mono _ _ _ _
   | exact spec_MoveOf.mono _ _ _ _ _ _ _
   | exact spec_MovesFrom.mono _ _ _ _ _ _
   | exact spec_l14Has.mono _ _ _
   | exact LeO.none _
   | refine LeO.ite ?_ ?_
   | refine LeO.bind ?_ (fun _ => ?_)
theorem spec_FollowPairs.mono : ∀ a0 a1 a2 a3 a4 a5 k, LeO (spec_FollowPairs.f k a0 a1 a2 a3 a4 a5) (spec_FollowPairs.f (k + 1) a0 a1 a2 a3 a4 a5) := by
 intro a0 a1 a2 a3 a4 a5 k
 obtain ⟨ih0, ih1, ih2, ih3, ih4, ih5⟩ := spec_FollowPairs.mono_l k
 unfold spec_FollowPairs.f
 repeat' first
   | (with_reducible exact ih0 _ _ _ _ _ _ _ _)
   | (with_reducible exact ih1 _ _ _ _ _ _ _ _)
   | (with_reducible exact ih2 _ _ _ _ _ _ _ _ _ _ _)
   | (with_reducible exact ih3 _ _ _ _ _ _ _ _ _ _ _ _)
   | (with_reducible exact ih4 _ _ _ _ _ _ _ _ _ _ _ _ _)
   | (with_reducible exact ih5 _ _ _ _ _ _ _ _ _ _ _ _ _ _ _ _)
   | (with_reducible exact spec_IsMachine.mono _ _ _ _)
   | (with_reducible exact spec_MoveOf.mono _ _ _ _ _ _ _)
   | (with_reducible exact spec_MovesFrom.mono _ _ _ _ _ _)
   | (with_reducible exact spec_l14Has.mono _ _ _)
   | (with_reducible exact LeO.refl _)
   | (with_reducible exact LeO.none _)
   | (with_reducible refine LeO.ite ?_ ?_)
   | (with_reducible refine LeO.bind ?_ (fun _ => ?_))
   | exact ih0 _ _ _ _ _ _ _ _
   | exact ih1 _ _ _ _ _ _ _ _
   | exact ih2 _ _ _ _ _ _ _ _ _ _ _
   | exact ih3 _ _ _ _ _ _ _ _ _ _ _ _
   | exact ih4 _ _ _ _ _ _ _ _ _ _ _ _ _
   | exact ih5 _ _ _ _ _ _ _ _ _ _ _ _ _ _ _ _
   | exact spec_IsMachine.mono _ _ _ _
   | exact spec_MoveOf.mono _ _ _ _ _ _ _
   | exact spec_MovesFrom.mono _ _ _ _ _ _
   | exact spec_l14Has.mono _ _ _
   | exact LeO.none _
   | refine LeO.ite ?_ ?_
   | refine LeO.bind ?_ (fun _ => ?_)
def spec_FollowPairs.T19 : Bool × List (List Nat × List Nat) := (true, [([], []), ([], []), ([], []), ([2], [2]), ([], []), ([], []), ([4, 5], [4, 5]), ([6], [6]), ([0, 1, 3, 7], [0, 1, 3, 7]), ([8, 8, 0, 1, 2, 3, 4, 5, 6, 7, 8], [8])])
def spec_FollowPairs.B19 : List Nat := [0, 0, 0, 4, 0, 0, 48, 112, 255, 511]
theorem spec_FollowPairs.tab19 : rtab .any (opsOf Try.f18 19) = spec_FollowPairs.T19 := by kernel_rfl
theorem spec_FollowPairs.bits19 : waitsOk spec_FollowPairs.T19.2 spec_FollowPairs.B19 = true := by kernel_rfl
def spec_FollowPairs.T20 : Bool × List (List Nat × List Nat) := (true, [([], []), ([], []), ([], []), ([2], [2]), ([], []), ([], []), ([4, 5], [4, 5]), ([6], [6]), ([0, 1, 3, 7], [0, 1, 3, 7]), ([8, 8, 0, 1, 2, 3, 4, 5, 6, 7, 8], [8])])
def spec_FollowPairs.B20 : List Nat := [0, 0, 0, 4, 0, 0, 48, 112, 255, 511]
theorem spec_FollowPairs.tab20 : rtab .any (opsOf Try.f18 20) = spec_FollowPairs.T20 := by kernel_rfl
theorem spec_FollowPairs.bits20 : waitsOk spec_FollowPairs.T20.2 spec_FollowPairs.B20 = true := by kernel_rfl
def spec_FollowPairs.T22 : Bool × List (List Nat × List Nat) := (true, [([], []), ([0], [0]), ([], []), ([1, 2], [1, 2]), ([3], [3]), ([4], [4]), ([], []), ([6], [6]), ([], []), ([7, 8], [7, 8]), ([9], [9]), ([10], [10]), ([5, 11], [5, 11]), ([12, 0, 1, 2, 3, 4, 5, 6, 7, 8, 9, 10, 11, 12], [12])])
def spec_FollowPairs.B22 : List Nat := [0, 1, 0, 7, 15, 31, 0, 64, 0, 448, 960, 1984, 4095, 8191]
theorem spec_FollowPairs.tab22 : rtab .any (opsOf Try.f18 22) = spec_FollowPairs.T22 := by kernel_rfl
theorem spec_FollowPairs.bits22 : waitsOk spec_FollowPairs.T22.2 spec_FollowPairs.B22 = true := by kernel_rfl
set_option maxHeartbeats 8000000 in
set_option maxRecDepth 100000 in
theorem spec_FollowPairs.calls (k : Nat) (a0_0 : Int) (A0_1 : Option Addr) (c0_1 : Nat) (l0_1 : List Bool) (A0_2 : Option Addr) (c0_2 : Nat) (l0_2 : List (S64)) (a1_0 : Int) (A1_1 : Option Addr) (c1_1 : Nat) (l1_1 : List Bool) (A1_2 : Option Addr) (c1_2 : Nat) (l1_2 : List (S64)) (r : List (List Int)) (w : World) (hr0_1 : Kd.C Kd.bool w A0_1 l0_1.length l0_1) (hc0_1 : l0_1.length ≤ c0_1) (hr0_2 : Kd.C k64 w A0_2 l0_2.length l0_2) (hc0_2 : l0_2.length ≤ c0_2) (hr1_1 : Kd.C Kd.bool w A1_1 l1_1.length l1_1) (hc1_1 : l1_1.length ≤ c1_1) (hr1_2 : Kd.C k64 w A1_2 l1_2.length l1_2) (hc1_2 : l1_2.length ≤ c1_2) (h : spec_FollowPairs.f k a0_0 l0_1 l0_2 a1_0 l1_1 l1_2 = some r) :
  Calls Try.prog 18 #[.agg #[.int .i64 a0_0, .slice A0_1 l0_1.length c0_1, .slice A0_2 l0_2.length c0_2], .agg #[.int .i64 a1_0, .slice A1_1 l1_1.length c1_1, .slice A1_2 l1_2.length c1_2]] w fun e w' => ∃ v0_ : Value, e = .returned (v0_) ∧ Kd.S (Kd.slice 3 (Kd.int .i64)) 38 w' w.heap.size (fun _ => True) v0_ r ∧ Below w.heap.size w w' := by
 have hu31 := Try.underlying31
 have HR0_1 := Aside0.mk hr0_1
 have HC0_1 := Aside0.mk hc0_1
 clear hr0_1 hc0_1
 have HR0_2 := Aside0.mk hr0_2
 have HC0_2 := Aside0.mk hc0_2
 clear hr0_2 hc0_2
 have HR1_1 := Aside0.mk hr1_1
 have HC1_1 := Aside0.mk hc1_1
 clear hr1_1 hc1_1
 have HR1_2 := Aside0.mk hr1_2
 have HC1_2 := Aside0.mk hc1_2
 clear hr1_2 hc1_2
 have HB := Aside0.mk (Below.refl w.heap.size w)
 have H : ((some (([] : List (List Int)) : List (List Int))).bind fun y232 => ((spec_IsMachine.f k a0_0 l0_1 l0_2).bind fun t235 => (if t235 = true then ((spec_IsMachine.f k a1_0 l1_1 l1_2).bind fun t236 => (spec_FollowPairs.j0 k y232 (!t236) a0_0 l0_1 l0_2 a1_0 l1_1 l1_2)) else (spec_FollowPairs.j0 k y232 true a0_0 l0_1 l0_2 a1_0 l1_1 l1_2)))) = some r := h
 clear h
 obtain ⟨y232, hy232⟩ : ∃ y_ : List (List Int), y_ = (([] : List (List Int))) := ⟨_, rfl⟩
 replace H : ((spec_IsMachine.f k a0_0 l0_1 l0_2).bind fun t235 => (if t235 = true then ((spec_IsMachine.f k a1_0 l1_1 l1_2).bind fun t236 => (spec_FollowPairs.j0 k y232 (!t236) a0_0 l0_1 l0_2 a1_0 l1_1 l1_2)) else (spec_FollowPairs.j0 k y232 true a0_0 l0_1 l0_2 a1_0 l1_1 l1_2))) = some r := by first | (rw [hy232]; with_reducible exact H) | (have H2_ := (Option.bind_some _ _).symm.trans H; rw [hy232]; with_reducible exact H2_) | (have H2_ := (Option.bind_some _ _).symm.trans H; with_reducible exact H2_) | with_reducible exact H | (rw [hy232]; exact H) | exact H
 have Ny232 := Aside0.mk hy232
 clear hy232
 have HC3 := Aside0.mk H
 clear H
 go_enter Try.func18, Try.ntmps18
 go_upto_region 2 with (first | ((with_reducible refine gate_dst (N := 2) rfl ?_); refine box_event ?hg (N := 2) ?hd (cs := #[.int .i64 a0_0, .slice A0_1 l0_1.length c0_1, .slice A0_2 l0_2.length c0_2]) (t := 31) ?hr ?_; (case hd => rfl); (case hg => rfl); (case hr => first | (go_simp; done) | (go_simp; rfl)); intro gb230 hg w4 hbox hb; have BK230 := Aside0.mk (hbox); have GW230 := gS HB hg; have GE230 := gS HB hg; replace HB := bS HB hb; clear hb hbox hg) | ((with_reducible refine gate_dst (N := 3) rfl ?_); refine box_event ?hg (N := 3) ?hd (cs := #[.int .i64 a1_0, .slice A1_1 l1_1.length c1_1, .slice A1_2 l1_2.length c1_2]) (t := 31) ?hr ?_; (case hd => rfl); (case hg => rfl); (case hr => first | (go_simp; done) | (go_simp; rfl)); intro gb231 hg w5 hbox hb; have BK231 := Aside0.mk (hbox); have GW231 := gS HB hg; have GE231 := gS HB hg; replace HB := bS HB hb; have NB230_231 := nL BK230 hg; have NB231_230 := nR BK230 hg; replace BK230 := kB BK230 hb; clear hb hbox hg) | ((with_reducible refine gate_dst (N := 15) rfl ?_); refine Kd.S_lit (Kd.slice 3 (Kd.int .i64)) _ 38 ?hg (N := 15) ?hd (xs := ([] : List (List Int))) (inner := []) (ok := fun _ => True) (okp := fun _ => True) ?hr ?hp (fun _ hk => hk) trivial (Below.refl _ _) (Nat.le_refl _) (by simp) ?_; (case hd => rfl); (case hg => rfl); (case hr => first | (go_simp; done) | (go_simp; rfl)); (case hp => exact (Reps.none _ _)); intro v233 w6 ho7 hb hg_ hnew_; clear hg_ hnew_; (first | rw [← Ny232.out] at ho7 | (simp only [Int.reduceToNat] at ho7; rw [← Ny232.out] at ho7)); have HO234 := Aside0.mk (Kd.S_lower ho7 (below_size (zB HB))); replace BK230 := kB BK230 hb; replace BK231 := kB BK231 hb; replace HB := bS HB hb; clear hb ho7))
 (try simp only [Act.put, List.setIfInBounds_toArray, List.set_cons_zero, List.set_cons_succ])
 go_cut [23] (fun v23 wc => ∃ (kq : Nat) (x23_2 : Bool), v23 = .bool x23_2 ∧ Aside0 (spec_FollowPairs.j0 kq y232 x23_2 a0_0 l0_1 l0_2 a1_0 l1_1 l1_2 = some r) ∧ Aside0 (kq ≤ k) ∧ Aside0 (Kd.S (Kd.slice 3 (Kd.int .i64)) 38 wc w.heap.size (fun _ => True) v233 y232) ∧ Aside0 (wc.heap[gb230]? = some (.cells #[.int .i64 a0_0, (.slice A0_1 l0_1.length c0_1), (.slice A0_2 l0_2.length c0_2)] 31 (0, 0))) ∧ Aside0 (wc.heap[gb231]? = some (.cells #[.int .i64 a1_0, (.slice A1_1 l1_1.length c1_1), (.slice A1_2 l1_2.length c1_2)] 31 (0, 0))) ∧ Aside0 (Below w.heap.size w wc))
 case first =>
  have H := HC3.out
  clear HC3
  obtain ⟨t235, A8, H⟩ := bindS H
  by_cases c9 : t235 = true
  ·subst c9
   have H1 : ((spec_IsMachine.f k a1_0 l1_1 l1_2).bind fun t236 => (spec_FollowPairs.j0 k y232 (!t236) a0_0 l0_1 l0_2 a1_0 l1_1 l1_2)) = some r := by rw [if_pos rfl] at H; exact H
   clear H
   have H := H1
   clear H1
   obtain ⟨t236, A10, H⟩ := bindS H
   have H' := Aside0.mk H
   clear H
   have hnb11 := NB230_231.out
   have hnc11 := NB231_230.out
   have hcz12_0 := bc0 BK230
   have hcz12_1 := bc1 BK230
   have hcz12_2 := bc2 BK230
   have hfz12_0 := bf BK230 0
   have hfz12_1 := bf BK230 1
   have hfz12_2 := bf BK230 2
   go_wp2_with (first | ((with_reducible refine gate_callee (f := 36) rfl ?_); refine goesL_ (some 17) rfl rfl Try.func36 (by kernel_rfl) rfl #[.agg #[.int .i64 a0_0, .slice A0_1 l0_1.length c0_1, .slice A0_2 l0_2.length c0_2]] rfl zG ?_; (with_reducible refine (spec_IsMachine.calls k a0_0 _ _ l0_1 _ _ l0_2 true _ ?side1 ?side2 ?side3 ?side4 A8.out).mono ?_); (case side1 => exact cS HR0_1 HB); (case side2 => exact HC0_1.out); (case side3 => exact cS HR0_2 HB); (case side4 => exact HC0_2.out); rintro e w13 ⟨rfl, hb⟩; refine ⟨_, rfl, ?_⟩; replace HO234 := Aside0.mk (Kd.S_below (zS HO234) hb); replace BK230 := kB BK230 hb; replace BK231 := kB BK231 hb; replace HB := bS HB hb; (try clear hb); have hcz14_0 := bc0 BK231; have hcz14_1 := bc1 BK231; have hcz14_2 := bc2 BK231; have hfz14_0 := bf BK231 0; have hfz14_1 := bf BK231 1; have hfz14_2 := bf BK231 2) | (go_at_call 36; (with_reducible refine (spec_IsMachine.calls k a1_0 _ _ l1_1 _ _ l1_2 t236 _ ?side1 ?side2 ?side3 ?side4 A10.out).mono ?_); (case side1 => exact cS HR1_1 HB); (case side2 => exact HC1_1.out); (case side3 => exact cS HR1_2 HB); (case side4 => exact HC1_2.out); rintro e w15 ⟨rfl, hb⟩; replace HO234 := Aside0.mk (Kd.S_below (zS HO234) hb); replace BK230 := kB BK230 hb; replace BK231 := kB BK231 hb; replace HB := bS HB hb; (try clear hb)))
   go_meet
   case rel => exact ⟨_, (!t236), zF, H', ⟨by first | omega | exact Nat.le_refl _⟩, ⟨zS HO234⟩, ⟨zK BK230⟩, ⟨zK BK231⟩, ⟨zB HB⟩⟩
  ·replace c9 := Bool.eq_false_iff.mpr c9
   subst c9
   have H1 : (spec_FollowPairs.j0 k y232 true a0_0 l0_1 l0_2 a1_0 l1_1 l1_2) = some r := by rw [if_neg (show ¬ (false = true) by decide)] at H; exact H
   clear H
   have H := H1
   clear H1
   have H' := Aside0.mk H
   clear H
   have hnb16 := NB230_231.out
   have hnc16 := NB231_230.out
   have hcz17_0 := bc0 BK230
   have hcz17_1 := bc1 BK230
   have hcz17_2 := bc2 BK230
   have hfz17_0 := bf BK230 0
   have hfz17_1 := bf BK230 1
   have hfz17_2 := bf BK230 2
   go_wp2_with (first | ((with_reducible refine gate_callee (f := 36) rfl ?_); refine goesL_ (some 17) rfl rfl Try.func36 (by kernel_rfl) rfl #[.agg #[.int .i64 a0_0, .slice A0_1 l0_1.length c0_1, .slice A0_2 l0_2.length c0_2]] rfl zG ?_; (with_reducible refine (spec_IsMachine.calls k a0_0 _ _ l0_1 _ _ l0_2 false _ ?side1 ?side2 ?side3 ?side4 A8.out).mono ?_); (case side1 => exact cS HR0_1 HB); (case side2 => exact HC0_1.out); (case side3 => exact cS HR0_2 HB); (case side4 => exact HC0_2.out); rintro e w18 ⟨rfl, hb⟩; refine ⟨_, rfl, ?_⟩; replace HO234 := Aside0.mk (Kd.S_below (zS HO234) hb); replace BK230 := kB BK230 hb; replace BK231 := kB BK231 hb; replace HB := bS HB hb; (try clear hb)))
   go_meet
   case rel => exact ⟨_, (true), zF, H', ⟨by first | omega | exact Nat.le_refl _⟩, ⟨zS HO234⟩, ⟨zK BK230⟩, ⟨zK BK231⟩, ⟨zB HB⟩⟩
 case rest =>
  clear HC3
  try clear c1
  try clear p2
  try clear c3
  try clear c9
  try clear c11
  try clear c16
  try clear c18
  try clear hcz12_0
  try clear hcz12_1
  try clear hcz12_2
  try clear hcz14_0
  try clear hcz14_1
  try clear hcz14_2
  try clear hcz17_0
  try clear hcz17_1
  try clear hcz17_2
  try clear hfz12_0
  try clear hfz12_1
  try clear hfz12_2
  try clear hfz14_0
  try clear hfz14_1
  try clear hfz14_2
  try clear hfz17_0
  try clear hfz17_1
  try clear hfz17_2
  obtain ⟨kq, x23_2, rfl, HA, HJ2, HO_5, BK230, BK231, HB⟩ := hcut
  cases kq with
  | zero => exact absurd HA.out (by simp [spec_FollowPairs.j0])
  | succ kj2 =>
   have H := HA.out
   clear HA
   simp only [spec_FollowPairs.j0] at H
   by_cases c19 : x23_2 = true
   ·subst c19
    have H1 : (some y232) = some r := by rw [if_pos rfl] at H; exact H
    clear H
    have H := H1
    clear H1
    obtain rfl := Option.some.inj H
    go_wp2
    go_ret
    exact ⟨_, zE, by (with_reducible repeat (first | apply Kd.S_alloc | apply Kd.S_drewN | apply Kd.S_drew)); exact HO_5.out, zB HB⟩
   ·replace c19 := Bool.eq_false_iff.mpr c19
    subst c19
    have H1 : (if y232.length < 5864062014805 then (spec_FollowPairs.l0 kj2 (y232 ++ [(([0, 0] : List Int))]) 0 a0_0 l0_1 l0_2 a1_0 l1_1 l1_2) else (none)) = some r := by rw [if_neg (show ¬ (false = true) by decide)] at H; exact H
    clear H
    have H := H1
    clear H1
    obtain ⟨y237, hy237⟩ : ∃ y_ : List Int, y_ = (([0, 0] : List Int)) := ⟨_, rfl⟩
    replace H : (if y232.length < 5864062014805 then (spec_FollowPairs.l0 kj2 (y232 ++ [y237]) 0 a0_0 l0_1 l0_2 a1_0 l1_1 l1_2) else (none)) = some r := by first | (rw [hy237]; with_reducible exact H) | (have H2_ := (Option.bind_some _ _).symm.trans H; rw [hy237]; with_reducible exact H2_) | (have H2_ := (Option.bind_some _ _).symm.trans H; with_reducible exact H2_) | with_reducible exact H | (rw [hy237]; exact H) | exact H
    have Ny237 := Aside0.mk hy237
    clear hy237
    by_cases c20 : y232.length < 5864062014805
    ·rw [if_pos c20] at H
     have LMc20 := Aside0.mk c20
     clear c20
     obtain ⟨y240, hy240⟩ : ∃ y_ : List (List Int), y_ = (y232 ++ [y237]) := ⟨_, rfl⟩
     replace H : (spec_FollowPairs.l0 kj2 y240 0 a0_0 l0_1 l0_2 a1_0 l1_1 l1_2) = some r := by first | (rw [hy240]; with_reducible exact H) | (have H2_ := (Option.bind_some _ _).symm.trans H; rw [hy240]; with_reducible exact H2_) | (have H2_ := (Option.bind_some _ _).symm.trans H; with_reducible exact H2_) | with_reducible exact H | (rw [hy240]; exact H) | exact H
     have Ny240 := Aside0.mk hy240
     clear hy240
     have H' := Aside0.mk H
     clear H
     go_wp2_with (first | ((with_reducible refine gate_dst (N := 26) rfl ?_); refine Kd.R_lit (Kd.int .i64) _ 3 ?hg (N := 26) ?hd (xs := ([0, 0] : List Int)) (inner := [.int .i64 0, .int .i64 0]) (ok := fun _ => True) (okp := fun _ => True) ?hr ?hp (fun _ hk => hk) trivial (Below.refl _ _) (Nat.le_refl _) (by simp) ?_; (case hd => rfl); (case hg => rfl); (case hr => first | (go_simp; done) | (go_simp; rfl)); (case hp => exact (Reps.one (show Kd.M (Kd.int .i64) _ _ _ 0 [.int .i64 0] from rfl) (Reps.one (show Kd.M (Kd.int .i64) _ _ _ 0 [.int .i64 0] from rfl) (Reps.none _ _)))); intro v238 w21 ho22 hb hg_ hnew_; clear hg_ hnew_; (first | rw [← Ny237.out] at ho22 | (simp only [Int.reduceToNat] at ho22; rw [← Ny237.out] at ho22)); replace HO_5 := Aside0.mk (Kd.S_elder' (zS HO_5) (Kd.R_base ho22) hb); have HO239 := Aside0.mk (Kd.R_lower ho22 (below_size (zB HB))); replace BK230 := kB BK230 hb; replace BK231 := kB BK231 hb; replace HB := bS HB hb; clear hb ho22; obtain ⟨Ao24, co24, eo24⟩ := Kd.R_slice HO239.out; subst eo24) | ((with_reducible refine gate_builtin (b := .append) (xs := #[.tmp 25, .tmp 27]) rfl ?_); at_builtin; refine Kd.S_append (Kd.slice 3 (Kd.int .i64)) (w0 := w) w.heap.size rfl (.tmp 25) (.tmp 27) 27 38 (.slice none 0 0) 24 rfl Try.underlying27 info38 rfl (by decide) (by omega) v233 y232 y237 [.slice Ao24 y237.length co24] (fun _ => True) (fun k_ => some k_ = (.slice Ao24 y237.length co24 : Value).ownBlock) rfl rfl ?aP (fun k_ hk_ => ((Kd.R_mono (ok' := fun k_ => ((fun _ => True)) k_ ∧ some k_ ≠ (v233 : Value).ownBlock) (Kd.R_apart' (HO239.out) (Kd.S_typed HO_5.out) (by decide)) (fun k_ hk => ⟨trivial, hk.2⟩))).1 k_ hk_.symm) ?aF ?aO ?aB ?aS ?aL ?_; (case aP => exact Kd.M_row (Kd.R_mono (Kd.R_tight rfl (Kd.R_mono (ok' := fun k_ => ((fun _ => True)) k_ ∧ some k_ ≠ (v233 : Value).ownBlock) (Kd.R_apart' (HO239.out) (Kd.S_typed HO_5.out) (by decide)) (fun k_ hk => ⟨trivial, hk.2⟩))) (fun _ h_ => h_))); (case aB => exact (zB HB)); (case aF => exact (fun _ _ => trivial)); (case aO => exact (by (with_reducible repeat (first | apply Kd.S_alloc | apply Kd.S_drewN | apply Kd.S_drew)); exact Kd.S_mono HO_5.out (fun k_ hk => ⟨trivial, fun e_ => hk.2 e_⟩))); (case aS => exact (below_size (zB HB))); (case aL => have := LMc20.out; omega); intro v241 w23 ho hb hg hat; rw [← Ny240.out] at ho; replace BK230 := Aside0.mk (blk_grown (g := gb230) (o := .cells #[.int .i64 a0_0, .slice A0_1 l0_1.length c0_1, .slice A0_2 l0_2.length c0_2] 31 (0, 0)) (zK BK230) hg (Kd.S_ne HO_5.out BK230.out (by decide))); replace BK231 := Aside0.mk (blk_grown (g := gb231) (o := .cells #[.int .i64 a1_0, .slice A1_1 l1_1.length c1_1, .slice A1_2 l1_2.length c1_2] 31 (0, 0)) (zK BK231) hg (Kd.S_ne HO_5.out BK231.out (by decide))); replace HB := Aside0.mk (hb); have HO242 := Aside0.mk (ho); clear HO_5 HO239; clear ho hb hg hat))
     go_loopg [5, 6] kj2 (fun kq v5 v6 w' => ∃ (x5_2 : List (List Int)) (x6_2 : Int), v6 = .int .i64 x6_2 ∧ Aside0 (spec_FollowPairs.l0 kq x5_2 x6_2 a0_0 l0_1 l0_2 a1_0 l1_1 l1_2 = some r) ∧ Aside0 (kq ≤ kj2) ∧ Aside0 (Kd.S (Kd.slice 3 (Kd.int .i64)) 38 w' w.heap.size (fun _ => True) v5 x5_2) ∧ Aside0 (w'.heap[gb230]? = some (.cells #[.int .i64 a0_0, (.slice A0_1 l0_1.length c0_1), (.slice A0_2 l0_2.length c0_2)] 31 (0, 0))) ∧ Aside0 (w'.heap[gb231]? = some (.cells #[.int .i64 a1_0, (.slice A1_1 l1_1.length c1_1), (.slice A1_2 l1_2.length c1_2)] 31 (0, 0))) ∧ Aside0 (Below w.heap.size w w'))
     case atStart => exact ⟨(y240), (0), zF, H', ⟨Nat.le_refl _⟩, ⟨zS HO242⟩, ⟨zK BK230⟩, ⟨zK BK231⟩, ⟨zB HB⟩⟩
     case round =>
      clear H'
      try clear c1
      try clear c2
      try clear p2
      try clear c3
      try clear c9
      try clear c11
      try clear c16
      try clear c18
      try clear c19
      try clear c20
      try clear hcz12_0
      try clear hcz12_1
      try clear hcz12_2
      try clear hcz14_0
      try clear hcz14_1
      try clear hcz14_2
      try clear hcz17_0
      try clear hcz17_1
      try clear hcz17_2
      try clear hfz12_0
      try clear hfz12_1
      try clear hfz12_2
      try clear hfz14_0
      try clear hfz14_1
      try clear hfz14_2
      try clear hfz17_0
      try clear hfz17_1
      try clear hfz17_2
      try clear p2
      obtain ⟨x5_2, x6_2, rfl, HA, HK2, HO_5, BK230, BK231, HB⟩ := hrel
      cases gk with
      | zero => exact absurd HA.out (by simp [spec_FollowPairs.l0])
      | succ k2 =>
       have H := HA.out
       clear HA
       simp only [spec_FollowPairs.l0] at H
       by_cases c25 : x6_2 < (x5_2.length : Int)
       ·rw [if_pos c25] at H
        have c25b0 : decide (x6_2 < (x5_2.length : Int)) = true := decide_eq_true c25
        clear c25
        obtain ⟨c26, H⟩ := ifS H
        have c26b0 : decide (0 ≤ x6_2) = true := decide_eq_true c26
        clear c26
        obtain ⟨c27, H⟩ := ifS H
        have c27b0 : decide (0 < ((rd_L4 x5_2 x6_2).length : Int)) = true := decide_eq_true c27
        have c27b1 : decide (0 < (rd_L4 x5_2 x6_2).length) = true := decide_eq_true (by omega)
        clear c27
        obtain ⟨c28, H⟩ := ifS H
        have c28b0 : decide (1 < ((rd_L4 x5_2 x6_2).length : Int)) = true := decide_eq_true c28
        have c28b1 : decide (1 < (rd_L4 x5_2 x6_2).length) = true := decide_eq_true (by omega)
        clear c28
        have H' := Aside0.mk H
        clear H
        obtain ⟨Ao29, co29, eo29⟩ := Kd.S_slice HO_5.out
        subst eo29
        have p243 : 0 ≤ (x6_2 : Int) := zD
        have q243 : x6_2 < (x5_2.length : Int) := zD
        obtain ⟨ad243, A243_0, c243_0, e243, hx243_0, hl243_0, hi243_0⟩ := at_L4 (Kd.S_reads' HO_5.out).2.2 x6_2 p243 q243
        cases e243
        obtain ⟨ce243, hce243, hMe243, hcc243⟩ := Kd.S_get HO_5.out [] x6_2 p243 (by first | exact q243 | exact zD | (have e_ := (Kd.S_reads' HO_5.out).1; omega))
        obtain ⟨ve243_0, rfl, ge243_0⟩ := hMe243
        have hv243_0 := hcc243 0 _ rfl
        rw [Nat.add_zero, show ((Kd.slice 3 (Kd.int .i64))).sz = 1 from rfl, Nat.mul_one] at hv243_0
        replace hv243_0 := Option.some.inj (hv243_0.symm.trans hx243_0)
        rw [hv243_0] at ge243_0
        have HL243_0 := Aside0.mk (show Kd.R (Kd.int .i64) 3 _ _ _ _ (rd_L4 x5_2 x6_2) from ge243_0)
        clear hv243_0 ge243_0
        clear hcc243 hce243
        have HR243_0 := Aside0.mk hi243_0
        have HC243_0 := Aside0.mk hl243_0
        clear hi243_0 hl243_0
        replace p243 := eq_true p243
        replace q243 := eq_true q243
        have p244 : 0 ≤ (0 : Int) := (by omega)
        have q244 : 0 < ((rd_L4 x5_2 x6_2).length : Int) := zD
        obtain ⟨ad244, e244, hx244_0⟩ := Kd.at_int (by repeat (first | (with_reducible exact HR243_0.out) | (with_reducible refine Kd.C_alloc ?_ _) | (with_reducible refine Kd.C_drewN ?_ _) | (with_reducible refine Kd.C_drew ?_) | exact HR243_0.out)) 0 p244 q244
        cases e244
        have qi244 : (0 < (rd_L4 x5_2 x6_2).length) = True := eq_true (by omega)
        (try rw [show ((0 : Int)).toNat = 0 from rfl] at hx244_0)
        (try rw [Addr.add_zero'] at hx244_0)
        replace p244 := eq_true p244
        replace q244 := eq_true q244
        have p245 : 0 ≤ (x6_2 : Int) := zD
        have q245 : x6_2 < (x5_2.length : Int) := zD
        obtain ⟨ad245, A245_0, c245_0, e245, hx245_0, hl245_0, hi245_0⟩ := at_L4 (Kd.S_reads' HO_5.out).2.2 x6_2 p245 q245
        obtain rfl : ad243 = ad245 := (by injection e245)
        obtain ⟨ce245, hce245, hMe245, hcc245⟩ := Kd.S_get HO_5.out [] x6_2 p245 (by first | exact q245 | exact zD | (have e_ := (Kd.S_reads' HO_5.out).1; omega))
        obtain ⟨ve245_0, rfl, ge245_0⟩ := hMe245
        have hv245_0 := hcc245 0 _ rfl
        rw [Nat.add_zero, show ((Kd.slice 3 (Kd.int .i64))).sz = 1 from rfl, Nat.mul_one] at hv245_0
        replace hv245_0 := Option.some.inj (hv245_0.symm.trans hx245_0)
        rw [hv245_0] at ge245_0
        have HL245_0 := Aside0.mk (show Kd.R (Kd.int .i64) 3 _ _ _ _ (rd_L4 x5_2 x6_2) from ge245_0)
        clear hv245_0 ge245_0
        clear hcc245 hce245
        have HR245_0 := Aside0.mk hi245_0
        have HC245_0 := Aside0.mk hl245_0
        clear hi245_0 hl245_0
        replace p245 := eq_true p245
        replace q245 := eq_true q245
        have ea_ := Option.some.inj (hx243_0.symm.trans hx245_0)
        injection ea_ with ea_ en_ ec_
        subst ea_
        subst ec_
        clear en_
        have p246 : 0 ≤ (1 : Int) := (by omega)
        have q246 : 1 < ((rd_L4 x5_2 x6_2).length : Int) := zD
        obtain ⟨ad246, e246, hx246_0⟩ := Kd.at_int (by repeat (first | (with_reducible exact HR245_0.out) | (with_reducible refine Kd.C_alloc ?_ _) | (with_reducible refine Kd.C_drewN ?_ _) | (with_reducible refine Kd.C_drew ?_) | exact HR245_0.out)) 1 p246 q246
        cases e246
        (try simp only [show (1 : Int).toNat = 1 from rfl, Nat.reduceMul, Nat.reduceEqDiff, Go.Addr.add, ↓reduceIte] at hx246_0)
        have qi246 : (1 < (rd_L4 x5_2 x6_2).length) = True := eq_true (by omega)
        (try rw [show ((1 : Int)).toNat = 1 from rfl] at hx246_0)
        replace p246 := eq_true p246
        replace q246 := eq_true q246
        go_wp2
        go_loopg [5, 9] k2 (fun kq v5 v9 w' => ∃ (x5_3 : List (List Int)) (x9_3 : Int), v9 = .int .i64 x9_3 ∧ Aside0 (spec_FollowPairs.l1 kq x5_3 x6_2 (rd (rd_L4 x5_2 x6_2) 0) (rd (rd_L4 x5_2 x6_2) 1) x9_3 a0_0 l0_1 l0_2 a1_0 l1_1 l1_2 = some r) ∧ Aside0 (kq ≤ k2) ∧ Aside0 (Kd.S (Kd.slice 3 (Kd.int .i64)) 38 w' w.heap.size (fun _ => True) v5 x5_3) ∧ Aside0 (w'.heap[gb230]? = some (.cells #[.int .i64 a0_0, (.slice A0_1 l0_1.length c0_1), (.slice A0_2 l0_2.length c0_2)] 31 (0, 0))) ∧ Aside0 (w'.heap[gb231]? = some (.cells #[.int .i64 a1_0, (.slice A1_1 l1_1.length c1_1), (.slice A1_2 l1_2.length c1_2)] 31 (0, 0))) ∧ Aside0 (Below w.heap.size w w'))
        case atStart => exact ⟨(x5_2), (1), zF, H', ⟨Nat.le_refl _⟩, ⟨zS HO_5⟩, ⟨zK BK230⟩, ⟨zK BK231⟩, ⟨zB HB⟩⟩
        case round =>
         clear H'
         try clear c1
         try clear c2
         try clear p2
         try clear q2
         try clear hx2
         try clear qi2
         try clear c3
         try clear c9
         try clear c11
         try clear c16
         try clear c18
         try clear c19
         try clear c20
         try clear c24
         try clear p24
         try clear q24
         try clear hx24
         try clear qi24
         try clear c25
         try clear c25b0
         try clear c26
         try clear c26b0
         try clear c27
         try clear c27b0
         try clear c27b1
         try clear c28
         try clear c28b0
         try clear c28b1
         try clear hcz12_0
         try clear hcz12_1
         try clear hcz12_2
         try clear hcz14_0
         try clear hcz14_1
         try clear hcz14_2
         try clear hcz17_0
         try clear hcz17_1
         try clear hcz17_2
         try clear hfz12_0
         try clear hfz12_1
         try clear hfz12_2
         try clear hfz14_0
         try clear hfz14_1
         try clear hfz14_2
         try clear hfz17_0
         try clear hfz17_1
         try clear hfz17_2
         try clear hx243_0
         try clear hx244_0
         try clear hx245_0
         try clear hx246_0
         try clear p2
         try clear p243
         try clear p244
         try clear p245
         try clear p246
         try clear q243
         try clear q244
         try clear q245
         try clear q246
         obtain ⟨x5_3, x9_3, rfl, HA, HK3, HO_5, BK230, BK231, HB⟩ := hrel
         cases gk with
         | zero => exact absurd HA.out (by simp [spec_FollowPairs.l1])
         | succ k3 =>
          have H := HA.out
          clear HA
          simp only [spec_FollowPairs.l1] at H
          by_cases c30 : x9_3 ≥ 0
          ·rw [if_pos c30] at H
           have c30b0 : decide (0 ≤ x9_3) = true := decide_eq_true c30
           clear c30
           obtain ⟨t247, A31, H⟩ := bindS H
           have HC32 := Aside0.mk H
           clear H
           have hnb33 := NB230_231.out
           have hnc33 := NB231_230.out
           have hcz34_0 := bc0 BK230
           have hcz34_1 := bc1 BK230
           have hcz34_2 := bc2 BK230
           have hfz34_0 := bf BK230 0
           have hfz34_1 := bf BK230 1
           have hfz34_2 := bf BK230 2
           go_upto_if 55 with (first | ((with_reducible refine gate_callee (f := 49) rfl ?_); refine goesL_ (some 53) rfl rfl Try.func49 (by kernel_rfl) rfl #[.agg #[.int .i64 a0_0, .slice A0_1 l0_1.length c0_1, .slice A0_2 l0_2.length c0_2], .int .i64 (rd (rd_L4 x5_2 x6_2) 0), .bool true] rfl zG ?_; (with_reducible refine (spec_MovesFrom.calls k3 a0_0 _ _ l0_1 _ _ l0_2 (rd (rd_L4 x5_2 x6_2) 0) true t247 _ ?side1 ?side2 ?side3 ?side4 A31.out).mono ?_); (case side1 => exact cS HR0_1 HB); (case side2 => exact HC0_1.out); (case side3 => exact cS HR0_2 HB); (case side4 => exact HC0_2.out); rintro e w35 ⟨v248, rfl, ho0, hb⟩; refine ⟨_, rfl, ?_⟩; replace HO_5 := Aside0.mk (Kd.S_elder' (zS HO_5) (Kd.R_base ho0) hb); have HO249 := Aside0.mk (Kd.R_lower ho0 (below_size (zB HB))); replace BK230 := kB BK230 hb; replace BK231 := kB BK231 hb; replace HB := bS HB hb; (try clear hb); (try clear ho0)))
           (try simp only [Act.put, List.setIfInBounds_toArray, List.set_cons_zero, List.set_cons_succ])
           go_cut [10] (fun v10 wc => ∃ (kq : Nat) (x10_31 : List Int), Aside0 (spec_FollowPairs.j3 kq x5_3 x6_2 (rd (rd_L4 x5_2 x6_2) 0) (rd (rd_L4 x5_2 x6_2) 1) x9_3 x10_31 a0_0 l0_1 l0_2 a1_0 l1_1 l1_2 = some r) ∧ Aside0 (kq ≤ k3) ∧ Aside0 (Kd.S (Kd.slice 3 (Kd.int .i64)) 38 wc w.heap.size (fun k_ => some k_ ≠ (v10 : Value).ownBlock) u5 x5_3) ∧ Aside0 (Kd.R (Kd.int .i64) 3 wc w.heap.size (fun _ => True) v10 x10_31) ∧ Aside0 (wc.heap[gb230]? = some (.cells #[.int .i64 a0_0, (.slice A0_1 l0_1.length c0_1), (.slice A0_2 l0_2.length c0_2)] 31 (0, 0))) ∧ Aside0 (wc.heap[gb231]? = some (.cells #[.int .i64 a1_0, (.slice A1_1 l1_1.length c1_1), (.slice A1_2 l1_2.length c1_2)] 31 (0, 0))) ∧ Aside0 (Below w.heap.size w wc))
           case first =>
            have H := HC32.out
            clear HC32
            by_cases c36 : x9_3 = 0
            ·rw [if_pos c36] at H
             have c36b0 : (x9_3 == 0) = true := beq_iff_eq.mpr c36
             have c36b1 : (x9_3 != 0) = false := bne_eq_false_iff_eq.mpr c36
             clear c36
             (first | rw [c36b0] | (simp only [i64_w, i32_w]; rw [c36b0]) | skip)
             obtain ⟨t250, A37, H⟩ := bindS H
             have H' := Aside0.mk H
             clear H
             have hnb38 := NB231_230.out
             have hnc38 := NB230_231.out
             have hcz39_0 := bc0 BK231
             have hcz39_1 := bc1 BK231
             have hcz39_2 := bc2 BK231
             have hfz39_0 := bf BK231 0
             have hfz39_1 := bf BK231 1
             have hfz39_2 := bf BK231 2
             go_wp2_with (first | ((with_reducible refine gate_callee (f := 49) rfl ?_); refine goesL_ (some 58) rfl rfl Try.func49 (by kernel_rfl) rfl #[.agg #[.int .i64 a1_0, .slice A1_1 l1_1.length c1_1, .slice A1_2 l1_2.length c1_2], .int .i64 (rd (rd_L4 x5_2 x6_2) 1), .bool false] rfl zG ?_; (with_reducible refine (spec_MovesFrom.calls k3 a1_0 _ _ l1_1 _ _ l1_2 (rd (rd_L4 x5_2 x6_2) 1) false t250 _ ?side1 ?side2 ?side3 ?side4 A37.out).mono ?_); (case side1 => exact cS HR1_1 HB); (case side2 => exact HC1_1.out); (case side3 => exact cS HR1_2 HB); (case side4 => exact HC1_2.out); rintro e w40 ⟨v251, rfl, ho0, hb⟩; refine ⟨_, rfl, ?_⟩; replace HO_5 := Aside0.mk (Kd.S_elder' (zS HO_5) (Kd.R_base ho0) hb); have HO252 := Aside0.mk (Kd.R_lower (Kd.R_new' ho0 (Kd.R_lt (zR HO249))) (below_size (zB HB))); replace HO249 := Aside0.mk (Kd.R_elder' (zR HO249) (Kd.R_base ho0) hb); replace BK230 := kB BK230 hb; replace BK231 := kB BK231 hb; replace HB := bS HB hb; (try clear hb); (try clear ho0)))
             go_meet
             case rel => exact ⟨_, (t250), H', ⟨by have := HJ2.out; have := HK2.out; have := HK3.out; first | omega | exact Nat.le_refl _⟩, ⟨by (with_reducible repeat (first | apply Kd.S_alloc | apply Kd.S_drewN | apply Kd.S_drew)); exact Kd.S_mono HO_5.out (fun _ hk => hk.2)⟩, ⟨by (with_reducible repeat (first | apply Kd.R_alloc | apply Kd.R_drewN | apply Kd.R_drew)); exact Kd.R_mono HO252.out (fun _ hk => trivial)⟩, ⟨zK BK230⟩, ⟨zK BK231⟩, ⟨zB HB⟩⟩
            ·rw [if_neg c36] at H
             have c36b0 : (x9_3 == 0) = false := beq_eq_false_iff_ne.mpr c36
             have c36b1 : (x9_3 != 0) = true := bne_iff_ne.mpr c36
             (first | rw [c36b0] | (simp only [i64_w, i32_w]; rw [c36b0]) | skip)
             have H' := Aside0.mk H
             clear H
             go_wp2
             go_meet
             case rel => exact ⟨_, (t247), H', ⟨by have := HJ2.out; have := HK2.out; have := HK3.out; first | omega | exact Nat.le_refl _⟩, ⟨by (with_reducible repeat (first | apply Kd.S_alloc | apply Kd.S_drewN | apply Kd.S_drew)); exact Kd.S_mono HO_5.out (fun _ hk => hk.2)⟩, ⟨zR HO249⟩, ⟨zK BK230⟩, ⟨zK BK231⟩, ⟨zB HB⟩⟩
           case rest =>
            clear HC32
            try clear c1
            try clear c2
            try clear p2
            try clear q2
            try clear hx2
            try clear qi2
            try clear c3
            try clear c4
            try clear c9
            try clear c11
            try clear c16
            try clear c18
            try clear c19
            try clear c20
            try clear c24
            try clear p24
            try clear q24
            try clear hx24
            try clear qi24
            try clear c25
            try clear c25b0
            try clear c26
            try clear c26b0
            try clear c27
            try clear c27b0
            try clear c27b1
            try clear c28
            try clear c28b0
            try clear c28b1
            try clear c30
            try clear c30b0
            try clear c33
            try clear c36
            try clear c36b0
            try clear c36b1
            try clear c38
            try clear hcz12_0
            try clear hcz12_1
            try clear hcz12_2
            try clear hcz14_0
            try clear hcz14_1
            try clear hcz14_2
            try clear hcz17_0
            try clear hcz17_1
            try clear hcz17_2
            try clear hcz34_0
            try clear hcz34_1
            try clear hcz34_2
            try clear hcz39_0
            try clear hcz39_1
            try clear hcz39_2
            try clear hfz12_0
            try clear hfz12_1
            try clear hfz12_2
            try clear hfz14_0
            try clear hfz14_1
            try clear hfz14_2
            try clear hfz17_0
            try clear hfz17_1
            try clear hfz17_2
            try clear hfz34_0
            try clear hfz34_1
            try clear hfz34_2
            try clear hfz39_0
            try clear hfz39_1
            try clear hfz39_2
            try clear hx243_0
            try clear hx244_0
            try clear hx245_0
            try clear hx246_0
            try clear p2
            try clear p24
            try clear p243
            try clear p244
            try clear p245
            try clear p246
            try clear q2
            try clear q24
            try clear q243
            try clear q244
            try clear q245
            try clear q246
            obtain ⟨kq, x10_31, HA, HJ31, HO_5, HO_10, BK230, BK231, HB⟩ := hcut
            cases kq with
            | zero => exact absurd HA.out (by simp [spec_FollowPairs.j3])
            | succ kj31 =>
             have H := HA.out
             clear HA
             simp only [spec_FollowPairs.j3] at H
             have H' := Aside0.mk H
             clear H
             go_wp2
             go_loopg [5, 11] kj31 (fun kq v5 v11 w' => ∃ (x5_5 : List (List Int)) (x11_5 : Int), v11 = .int .i64 x11_5 ∧ Aside0 (spec_FollowPairs.l2 kq x5_5 x6_2 (rd (rd_L4 x5_2 x6_2) 0) (rd (rd_L4 x5_2 x6_2) 1) x9_3 x10_31 x11_5 a0_0 l0_1 l0_2 a1_0 l1_1 l1_2 = some r) ∧ Aside0 (kq ≤ kj31) ∧ Aside0 (Kd.S (Kd.slice 3 (Kd.int .i64)) 38 w' w.heap.size (fun k_ => some k_ ≠ (u10 : Value).ownBlock) v5 x5_5) ∧ Aside0 (Kd.R (Kd.int .i64) 3 w' w.heap.size (fun _ => True) u10 x10_31) ∧ Aside0 (w'.heap[gb230]? = some (.cells #[.int .i64 a0_0, (.slice A0_1 l0_1.length c0_1), (.slice A0_2 l0_2.length c0_2)] 31 (0, 0))) ∧ Aside0 (w'.heap[gb231]? = some (.cells #[.int .i64 a1_0, (.slice A1_1 l1_1.length c1_1), (.slice A1_2 l1_2.length c1_2)] 31 (0, 0))) ∧ Aside0 (Below w.heap.size w w'))
             case atStart => exact ⟨(x5_3), (0), zF, H', ⟨Nat.le_refl _⟩, ⟨zS HO_5⟩, ⟨zR HO_10⟩, ⟨zK BK230⟩, ⟨zK BK231⟩, ⟨zB HB⟩⟩
             case round =>
              clear H'
              try clear c1
              try clear c2
              try clear p2
              try clear q2
              try clear hx2
              try clear qi2
              try clear c3
              try clear c4
              try clear c9
              try clear c11
              try clear c16
              try clear c18
              try clear c19
              try clear c20
              try clear c24
              try clear p24
              try clear q24
              try clear hx24
              try clear qi24
              try clear c25
              try clear c25b0
              try clear c26
              try clear c26b0
              try clear c27
              try clear c27b0
              try clear c27b1
              try clear c28
              try clear c28b0
              try clear c28b1
              try clear c30
              try clear c30b0
              try clear c33
              try clear c36
              try clear c36b0
              try clear c36b1
              try clear c38
              try clear hcz12_0
              try clear hcz12_1
              try clear hcz12_2
              try clear hcz14_0
              try clear hcz14_1
              try clear hcz14_2
              try clear hcz17_0
              try clear hcz17_1
              try clear hcz17_2
              try clear hcz34_0
              try clear hcz34_1
              try clear hcz34_2
              try clear hcz39_0
              try clear hcz39_1
              try clear hcz39_2
              try clear hfz12_0
              try clear hfz12_1
              try clear hfz12_2
              try clear hfz14_0
              try clear hfz14_1
              try clear hfz14_2
              try clear hfz17_0
              try clear hfz17_1
              try clear hfz17_2
              try clear hfz34_0
              try clear hfz34_1
              try clear hfz34_2
              try clear hfz39_0
              try clear hfz39_1
              try clear hfz39_2
              try clear hx243_0
              try clear hx244_0
              try clear hx245_0
              try clear hx246_0
              try clear p2
              try clear p24
              try clear p243
              try clear p244
              try clear p245
              try clear p246
              try clear q2
              try clear q24
              try clear q243
              try clear q244
              try clear q245
              try clear q246
              obtain ⟨x5_5, x11_5, rfl, HA, HK5, HO_5, HO_10, BK230, BK231, HB⟩ := hrel
              cases gk with
              | zero => exact absurd HA.out (by simp [spec_FollowPairs.l2])
              | succ k5 =>
               have H := HA.out
               clear HA
               simp only [spec_FollowPairs.l2] at H
               by_cases c41 : x11_5 < (x10_31.length : Int)
               ·rw [if_pos c41] at H
                have c41b0 : decide (x11_5 < (x10_31.length : Int)) = true := decide_eq_true c41
                clear c41
                obtain ⟨c42, H⟩ := ifS H
                have c42b0 : decide (0 ≤ x11_5) = true := decide_eq_true c42
                clear c42
                obtain ⟨t254, A43, H⟩ := bindS H
                obtain ⟨t256, A44, H⟩ := bindS H
                have HC45 := Aside0.mk H
                clear H
                obtain ⟨Ao46, co46, eo46⟩ := Kd.R_slice HO_10.out
                subst eo46
                try go_wp2
                replace HO_5 := Aside0.mk (Kd.S_drew HO_5.out)
                replace HO_10 := Aside0.mk (Kd.R_drew HO_10.out)
                replace BK230 := Aside0.mk (blk_drew BK230.out)
                replace BK231 := Aside0.mk (blk_drew BK231.out)
                replace HB := Aside0.mk (below_drew1 HB.out)
                have p253 : 0 ≤ (x11_5 : Int) := zD
                have q253 : x11_5 < (x10_31.length : Int) := zD
                obtain ⟨ad253, e253, hx253_0⟩ := Kd.at_int (Kd.R_reads' HO_10.out).2.2 x11_5 p253 q253
                cases e253
                replace p253 := eq_true p253
                replace q253 := eq_true q253
                refine start_ (n := 10) (S := fun w' => w'.cell? ⟨gb230, 0, none⟩ = some (.int .i64 a0_0) ∧ w'.cell? ⟨gb230, 1, none⟩ = some (.slice A0_1 l0_1.length c0_1) ∧ w'.cell? ⟨gb230, 2, none⟩ = some (.slice A0_2 l0_2.length c0_2) ∧ w'.cell? (ad253.add (x11_5).toNat) = some (.int .i64 (rd x10_31 x11_5))) (ds := []) (bm 10 0) (by kernel_rfl) rfl (bm0 _) ⟨bc0 BK230, bc1 BK230, bc2 BK230, hx253_0⟩ (fun hHeld => ?_); refine with_tabW spec_FollowPairs.tab19 spec_FollowPairs.bits19 (fun HT_ HW_ => ?_)
                generalize wr.drew = w47 at HO_5 HO_10 BK230 BK231 HB hx253_0 hHeld ⊢
                refine pU 1 (some 66) (bm 10 2) HT_ rfl rfl ?_
                refine pU 2 (some 67) (bm 10 6) HT_ rfl rfl ?_
                refine pU 3 (some 68) (bm 10 14) HT_ rfl rfl ?_
                refine pU 4 (some 69) (bm 10 30) HT_ rfl rfl ?_
                refine pU 5 (some 70) (bm 10 62) HT_ rfl rfl ?_
                refine pU 6 (some 71) (bm 10 126) HT_ rfl rfl ?_
                refine tU 0 (some 65) (bm 10 127) HT_ HW_ rfl rfl hHeld ?_
                refine tU 7 (some 72) (bm 10 255) HT_ HW_ rfl rfl hHeld ?_
                refine one_ (i := 8) (N := some 73) (bm 10 511) rfl rfl (one_of HT_.out (by kernel_rfl)) (by decide) (fun K hK => ?_)
                refine goes_ Try.func50 (by kernel_rfl) rfl #[.agg #[.int .i64 a0_0, .slice A0_1 l0_1.length c0_1, .slice A0_2 l0_2.length c0_2], .int .i64 (rd (rd_L4 x5_2 x6_2) 0), .bool (x9_3 == 1), .int .i64 (rd x10_31 x11_5)] (by rfl) rfl rfl zG ?_
                with_reducible refine (spec_MoveOf.calls k5 a0_0 _ _ l0_1 _ _ l0_2 (rd (rd_L4 x5_2 x6_2) 0) (x9_3 == 1) (rd x10_31 x11_5) t254 _ ?side1 ?side2 ?side3 ?side4 A43.out).mono ?_
                (case side1 => exact cS HR0_1 HB)
                (case side2 => exact HC0_1.out)
                (case side3 => exact cS HR0_2 HB)
                (case side4 => exact HC0_2.out)
                rintro e w48 ⟨rfl, hb⟩
                have HS3_ := (hb.cell (World.block_lt_of_cell? _ _ (hHeld.2.2.2))).trans (hHeld.2.2.2)
                refine ⟨_, rfl, ?_⟩
                replace HO_5 := Aside0.mk (Kd.S_below (zS HO_5) hb)
                replace HO_10 := Aside0.mk (Kd.R_below (zR HO_10) hb)
                replace BK230 := kB BK230 hb
                replace BK231 := kB BK231 hb
                replace HB := bS HB hb
                (try clear hb)
                (try clear hb2)
                (try clear hk)
                (try clear hi)
                refine hK.out _ _ ⟨bc0 BK230, bc1 BK230, bc2 BK230, HS3_⟩ (fun hHeld => ?_)
                clear hK K
                refine norm_ (a' := ?_) ?_ ?_
                rotate_left
                ·show Act.put _ (some 73) _ = _
                 simp only [Act.put, List.setIfInBounds_toArray, List.set_cons_zero, List.set_cons_succ, i64_w, i32_w]
                 rfl
                refine pU 9 (some 12) (bm 10 1023) HT_ rfl rfl ?_
                refine done_ (done_of HT_.out (by kernel_rfl)) ?_
                try clear hHeld
                try go_wp2
                replace HO_5 := Aside0.mk (Kd.S_drew HO_5.out)
                replace HO_10 := Aside0.mk (Kd.R_drew HO_10.out)
                replace BK230 := Aside0.mk (blk_drew BK230.out)
                replace BK231 := Aside0.mk (blk_drew BK231.out)
                replace HB := Aside0.mk (below_drew1 HB.out)
                have p255 : 0 ≤ (x11_5 : Int) := zD
                have q255 : x11_5 < (x10_31.length : Int) := zD
                obtain ⟨ad255, e255, hx255_0⟩ := Kd.at_int (Kd.R_reads' HO_10.out).2.2 x11_5 p255 q255
                obtain rfl : ad253 = ad255 := (by injection e255)
                replace p255 := eq_true p255
                replace q255 := eq_true q255
                refine start_ (n := 10) (S := fun w' => w'.cell? ⟨gb231, 0, none⟩ = some (.int .i64 a1_0) ∧ w'.cell? ⟨gb231, 1, none⟩ = some (.slice A1_1 l1_1.length c1_1) ∧ w'.cell? ⟨gb231, 2, none⟩ = some (.slice A1_2 l1_2.length c1_2) ∧ w'.cell? (ad253.add (x11_5).toNat) = some (.int .i64 (rd x10_31 x11_5))) (ds := []) (bm 10 0) (by kernel_rfl) rfl (bm0 _) ⟨bc0 BK231, bc1 BK231, bc2 BK231, hx255_0⟩ (fun hHeld => ?_); refine with_tabW spec_FollowPairs.tab20 spec_FollowPairs.bits20 (fun HT_ HW_ => ?_)
                generalize w48.drew = w49 at HO_5 HO_10 BK230 BK231 HB hx255_0 hHeld ⊢
                refine pU 1 (some 75) (bm 10 2) HT_ rfl rfl ?_
                refine pU 2 (some 76) (bm 10 6) HT_ rfl rfl ?_
                refine pU 3 (some 77) (bm 10 14) HT_ rfl rfl ?_
                refine pU 4 (some 78) (bm 10 30) HT_ rfl rfl ?_
                refine pU 5 (some 79) (bm 10 62) HT_ rfl rfl ?_
                refine pU 6 (some 80) (bm 10 126) HT_ rfl rfl ?_
                refine tU 0 (some 74) (bm 10 127) HT_ HW_ rfl rfl hHeld ?_
                refine tU 7 (some 81) (bm 10 255) HT_ HW_ rfl rfl hHeld ?_
                refine one_ (i := 8) (N := some 82) (bm 10 511) rfl rfl (one_of HT_.out (by kernel_rfl)) (by decide) (fun K hK => ?_)
                refine goes_ Try.func50 (by kernel_rfl) rfl #[.agg #[.int .i64 a1_0, .slice A1_1 l1_1.length c1_1, .slice A1_2 l1_2.length c1_2], .int .i64 (rd (rd_L4 x5_2 x6_2) 1), .bool (x9_3 == 1), .int .i64 (rd x10_31 x11_5)] (by rfl) rfl rfl zG ?_
                with_reducible refine (spec_MoveOf.calls k5 a1_0 _ _ l1_1 _ _ l1_2 (rd (rd_L4 x5_2 x6_2) 1) (x9_3 == 1) (rd x10_31 x11_5) t256 _ ?side1 ?side2 ?side3 ?side4 A44.out).mono ?_
                (case side1 => exact cS HR1_1 HB)
                (case side2 => exact HC1_1.out)
                (case side3 => exact cS HR1_2 HB)
                (case side4 => exact HC1_2.out)
                rintro e w50 ⟨rfl, hb⟩
                have HS3_ := (hb.cell (World.block_lt_of_cell? _ _ (hHeld.2.2.2))).trans (hHeld.2.2.2)
                refine ⟨_, rfl, ?_⟩
                replace HO_5 := Aside0.mk (Kd.S_below (zS HO_5) hb)
                replace HO_10 := Aside0.mk (Kd.R_below (zR HO_10) hb)
                replace BK230 := kB BK230 hb
                replace BK231 := kB BK231 hb
                replace HB := bS HB hb
                (try clear hb)
                (try clear hb2)
                (try clear hk)
                (try clear hi)
                refine hK.out _ _ ⟨bc0 BK231, bc1 BK231, bc2 BK231, HS3_⟩ (fun hHeld => ?_)
                clear hK K
                refine norm_ (a' := ?_) ?_ ?_
                rotate_left
                ·show Act.put _ (some 82) _ = _
                 simp only [Act.put, List.setIfInBounds_toArray, List.set_cons_zero, List.set_cons_succ, i64_w, i32_w]
                 rfl
                refine pU 9 (some 13) (bm 10 1023) HT_ rfl rfl ?_
                refine done_ (done_of HT_.out (by kernel_rfl)) ?_
                try clear hHeld
                go_upto_region 21 with (fail)
                go_cut [88] (fun v88 wc => ∃ (kq : Nat) (x88_44 : Bool), v88 = .bool x88_44 ∧ Aside0 (spec_FollowPairs.j5 kq x5_5 x6_2 (rd (rd_L4 x5_2 x6_2) 0) (rd (rd_L4 x5_2 x6_2) 1) x9_3 x10_31 x11_5 t254 t256 x88_44 a0_0 l0_1 l0_2 a1_0 l1_1 l1_2 = some r) ∧ Aside0 (kq ≤ k5) ∧ Aside0 (Kd.S (Kd.slice 3 (Kd.int .i64)) 38 wc w.heap.size (fun k_ => some k_ ≠ ((.slice (some ad253) x10_31.length co46) : Value).ownBlock) u5 x5_5) ∧ Aside0 (Kd.R (Kd.int .i64) 3 wc w.heap.size (fun _ => True) (.slice (some ad253) x10_31.length co46) x10_31) ∧ Aside0 (wc.heap[gb230]? = some (.cells #[.int .i64 a0_0, (.slice A0_1 l0_1.length c0_1), (.slice A0_2 l0_2.length c0_2)] 31 (0, 0))) ∧ Aside0 (wc.heap[gb231]? = some (.cells #[.int .i64 a1_0, (.slice A1_1 l1_1.length c1_1), (.slice A1_2 l1_2.length c1_2)] 31 (0, 0))) ∧ Aside0 (Below w.heap.size w wc))
                case first =>
                 have H := HC45.out
                 clear HC45
                 by_cases c51 : t254 < 0
                 ·rw [if_pos c51] at H
                  have c51b0 : decide (t254 < 0) = true := decide_eq_true c51
                  clear c51
                  (first | rw [c51b0] | (simp only [i64_w, i32_w]; rw [c51b0]) | skip)
                  have H' := Aside0.mk H
                  clear H
                  go_wp2
                  go_meet
                  case rel => exact ⟨_, (true), zF, H', ⟨by have := HJ2.out; have := HK2.out; have := HK3.out; have := HJ31.out; have := HK5.out; first | omega | exact Nat.le_refl _⟩, ⟨zS HO_5⟩, ⟨zR HO_10⟩, ⟨zK BK230⟩, ⟨zK BK231⟩, ⟨zB HB⟩⟩
                 ·rw [if_neg c51] at H
                  have c51b0 : decide (t254 < 0) = false := decide_eq_false c51
                  clear c51
                  (first | rw [c51b0] | (simp only [i64_w, i32_w]; rw [c51b0]) | skip)
                  have H' := Aside0.mk H
                  clear H
                  go_wp2
                  go_meet
                  case rel => exact ⟨_, (decide (t256 < 0)), zF, H', ⟨by have := HJ2.out; have := HK2.out; have := HK3.out; have := HJ31.out; have := HK5.out; first | omega | exact Nat.le_refl _⟩, ⟨zS HO_5⟩, ⟨zR HO_10⟩, ⟨zK BK230⟩, ⟨zK BK231⟩, ⟨zB HB⟩⟩
                case rest =>
                 clear HC45
                 try clear c1
                 try clear c2
                 try clear p2
                 try clear q2
                 try clear hx2
                 try clear qi2
                 try clear c3
                 try clear c4
                 try clear c5
                 try clear c9
                 try clear c11
                 try clear c16
                 try clear c18
                 try clear c19
                 try clear c20
                 try clear c24
                 try clear p24
                 try clear q24
                 try clear hx24
                 try clear qi24
                 try clear c25
                 try clear c25b0
                 try clear p25
                 try clear q25
                 try clear hx25
                 try clear c26
                 try clear c26b0
                 try clear c27
                 try clear c27b0
                 try clear c27b1
                 try clear c28
                 try clear c28b0
                 try clear c28b1
                 try clear c30
                 try clear c30b0
                 try clear c33
                 try clear c36
                 try clear c36b0
                 try clear c36b1
                 try clear c38
                 try clear c41
                 try clear c41b0
                 try clear c42
                 try clear c42b0
                 try clear c49
                 try clear c50
                 try clear c51
                 try clear c51b0
                 try clear hcz12_0
                 try clear hcz12_1
                 try clear hcz12_2
                 try clear hcz14_0
                 try clear hcz14_1
                 try clear hcz14_2
                 try clear hcz17_0
                 try clear hcz17_1
                 try clear hcz17_2
                 try clear hcz34_0
                 try clear hcz34_1
                 try clear hcz34_2
                 try clear hcz39_0
                 try clear hcz39_1
                 try clear hcz39_2
                 try clear hfz12_0
                 try clear hfz12_1
                 try clear hfz12_2
                 try clear hfz14_0
                 try clear hfz14_1
                 try clear hfz14_2
                 try clear hfz17_0
                 try clear hfz17_1
                 try clear hfz17_2
                 try clear hfz34_0
                 try clear hfz34_1
                 try clear hfz34_2
                 try clear hfz39_0
                 try clear hfz39_1
                 try clear hfz39_2
                 try clear hx243_0
                 try clear hx244_0
                 try clear hx245_0
                 try clear hx246_0
                 try clear hx253_0
                 try clear hx255_0
                 try clear p2
                 try clear p24
                 try clear p243
                 try clear p244
                 try clear p245
                 try clear p246
                 try clear p253
                 try clear p255
                 try clear q2
                 try clear q24
                 try clear q243
                 try clear q244
                 try clear q245
                 try clear q246
                 try clear q253
                 try clear q255
                 obtain ⟨kq, x88_44, rfl, HA, HJ44, HO_5, HO_10, BK230, BK231, HB⟩ := hcut
                 cases kq with
                 | zero => exact absurd HA.out (by simp [spec_FollowPairs.j5])
                 | succ kj44 =>
                  have H := HA.out
                  clear HA
                  simp only [spec_FollowPairs.j5] at H
                  by_cases c52 : x88_44 = true
                  ·subst c52
                   have H1 : (spec_FollowPairs.l2 kj44 x5_5 x6_2 (rd (rd_L4 x5_2 x6_2) 0) (rd (rd_L4 x5_2 x6_2) 1) x9_3 x10_31 (wrap64 (x11_5 + 1)) a0_0 l0_1 l0_2 a1_0 l1_1 l1_2) = some r := by rw [if_pos rfl] at H; exact H
                   clear H
                   have H := H1
                   clear H1
                   have H' := Aside0.mk H
                   clear H
                   go_wp2
                   go_roundg kj44
                   case measure => have := HJ2.out; have := HK2.out; have := HK3.out; have := HJ31.out; have := HK5.out; have := HJ44.out; omega
                   case rel => exact ⟨(x5_5), (wrap64 (x11_5 + 1)), zF, H', ⟨by have := HJ2.out; have := HK2.out; have := HK3.out; have := HJ31.out; have := HK5.out; have := HJ44.out; omega⟩, ⟨zS HO_5⟩, ⟨zR HO_10⟩, ⟨zK BK230⟩, ⟨zK BK231⟩, ⟨zB HB⟩⟩
                  ·replace c52 := Bool.eq_false_iff.mpr c52
                   subst c52
                   have H1 : (if 0 ≤ t254 then (if t254 < (l0_2.length : Int) then (if 0 ≤ t256 then (if t256 < (l1_2.length : Int) then ((some (([(rd_T64 l0_2 t254).f3, (rd_T64 l1_2 t256).f3] : List Int) : List Int)).bind fun y259 => ((spec_l14Has.f kj44 x5_5 y259).bind fun t262 => (if t262 = true then (spec_FollowPairs.l2 kj44 x5_5 x6_2 (rd (rd_L4 x5_2 x6_2) 0) (rd (rd_L4 x5_2 x6_2) 1) x9_3 x10_31 (wrap64 (x11_5 + 1)) a0_0 l0_1 l0_2 a1_0 l1_1 l1_2) else (if x5_5.length < 5864062014805 then (spec_FollowPairs.l2 kj44 (x5_5 ++ [y259]) x6_2 (rd (rd_L4 x5_2 x6_2) 0) (rd (rd_L4 x5_2 x6_2) 1) x9_3 x10_31 (wrap64 (x11_5 + 1)) a0_0 l0_1 l0_2 a1_0 l1_1 l1_2) else (none))))) else (none)) else (none)) else (none)) else (none)) = some r := by rw [if_neg (show ¬ (false = true) by decide)] at H; exact H
                   clear H
                   have H := H1
                   clear H1
                   obtain ⟨c53, H⟩ := ifS H
                   have c53b0 : decide (0 ≤ t254) = true := decide_eq_true c53
                   clear c53
                   obtain ⟨c54, H⟩ := ifS H
                   have c54b0 : decide (t254 < (l0_2.length : Int)) = true := decide_eq_true c54
                   clear c54
                   obtain ⟨c55, H⟩ := ifS H
                   have c55b0 : decide (0 ≤ t256) = true := decide_eq_true c55
                   clear c55
                   obtain ⟨c56, H⟩ := ifS H
                   have c56b0 : decide (t256 < (l1_2.length : Int)) = true := decide_eq_true c56
                   clear c56
                   obtain ⟨y259, hy259⟩ : ∃ y_ : List Int, y_ = (([(rd_T64 l0_2 t254).f3, (rd_T64 l1_2 t256).f3] : List Int)) := ⟨_, rfl⟩
                   replace H : ((spec_l14Has.f kj44 x5_5 y259).bind fun t262 => (if t262 = true then (spec_FollowPairs.l2 kj44 x5_5 x6_2 (rd (rd_L4 x5_2 x6_2) 0) (rd (rd_L4 x5_2 x6_2) 1) x9_3 x10_31 (wrap64 (x11_5 + 1)) a0_0 l0_1 l0_2 a1_0 l1_1 l1_2) else (if x5_5.length < 5864062014805 then (spec_FollowPairs.l2 kj44 (x5_5 ++ [y259]) x6_2 (rd (rd_L4 x5_2 x6_2) 0) (rd (rd_L4 x5_2 x6_2) 1) x9_3 x10_31 (wrap64 (x11_5 + 1)) a0_0 l0_1 l0_2 a1_0 l1_1 l1_2) else (none)))) = some r := by first | (rw [hy259]; with_reducible exact H) | (have H2_ := (Option.bind_some _ _).symm.trans H; rw [hy259]; with_reducible exact H2_) | (have H2_ := (Option.bind_some _ _).symm.trans H; with_reducible exact H2_) | with_reducible exact H | (rw [hy259]; exact H) | exact H
                   have Ny259 := Aside0.mk hy259
                   clear hy259
                   obtain ⟨t262, A57, H⟩ := bindS H
                   by_cases c58 : t262 = true
                   ·subst c58
                    have H1 : (spec_FollowPairs.l2 kj44 x5_5 x6_2 (rd (rd_L4 x5_2 x6_2) 0) (rd (rd_L4 x5_2 x6_2) 1) x9_3 x10_31 (wrap64 (x11_5 + 1)) a0_0 l0_1 l0_2 a1_0 l1_1 l1_2) = some r := by rw [if_pos rfl] at H; exact H
                    clear H
                    have H := H1
                    clear H1
                    have H' := Aside0.mk H
                    clear H
                    try go_wp2
                    replace HO_5 := Aside0.mk (Kd.S_drew HO_5.out)
                    replace HO_10 := Aside0.mk (Kd.R_drew HO_10.out)
                    replace BK230 := Aside0.mk (blk_drew BK230.out)
                    replace BK231 := Aside0.mk (blk_drew BK231.out)
                    replace HB := Aside0.mk (below_drew1 HB.out)
                    have p257 : 0 ≤ (t254 : Int) := zD
                    have q257 : t254 < (l0_2.length : Int) := zD
                    obtain ⟨ad257, e257, hx257_0, hx257_1, hx257_2, hx257_3⟩ := at_T64 HR0_2.out t254 p257 q257
                    have hw257_3 := hx257_3
                    have hw257_2 := hx257_2
                    have hw257_1 := hx257_1
                    have hw257_0 := hx257_0
                    cases e257
                    replace hx257_0 := hL HB hx257_0
                    replace hx257_1 := hL HB hx257_1
                    replace hx257_2 := hL HB hx257_2
                    replace hx257_3 := hL HB hx257_3
                    replace p257 := eq_true p257
                    replace q257 := eq_true q257
                    have p258 : 0 ≤ (t256 : Int) := zD
                    have q258 : t256 < (l1_2.length : Int) := zD
                    obtain ⟨ad258, e258, hx258_0, hx258_1, hx258_2, hx258_3⟩ := at_T64 HR1_2.out t256 p258 q258
                    have hw258_3 := hx258_3
                    have hw258_2 := hx258_2
                    have hw258_1 := hx258_1
                    have hw258_0 := hx258_0
                    cases e258
                    replace hx258_0 := hL HB hx258_0
                    replace hx258_1 := hL HB hx258_1
                    replace hx258_2 := hL HB hx258_2
                    replace hx258_3 := hL HB hx258_3
                    replace p258 := eq_true p258
                    replace q258 := eq_true q258
                    refine start_ (n := 14) (S := fun w' => w'.cell? ⟨gb230, 0, none⟩ = some (.int .i64 a0_0) ∧ w'.cell? ⟨gb230, 1, none⟩ = some (.slice A0_1 l0_1.length c0_1) ∧ w'.cell? ⟨gb230, 2, none⟩ = some (.slice (some ad257) l0_2.length c0_2) ∧ w'.cell? ⟨gb231, 0, none⟩ = some (.int .i64 a1_0) ∧ w'.cell? ⟨gb231, 1, none⟩ = some (.slice A1_1 l1_1.length c1_1) ∧ w'.cell? ⟨gb231, 2, none⟩ = some (.slice (some ad258) l1_2.length c1_2) ∧ w'.cell? (ad257.add ((t254).toNat * 4)) = some (.int .i64 ((rd_T64 l0_2 t254).f0)) ∧ w'.cell? ⟨(ad257.add ((t254).toNat * 4)).block, (ad257.add ((t254).toNat * 4)).off + 1, none⟩ = some (.bool ((rd_T64 l0_2 t254).f1)) ∧ w'.cell? ⟨(ad257.add ((t254).toNat * 4)).block, (ad257.add ((t254).toNat * 4)).off + 2, none⟩ = some (.int .i64 ((rd_T64 l0_2 t254).f2)) ∧ w'.cell? ⟨(ad257.add ((t254).toNat * 4)).block, (ad257.add ((t254).toNat * 4)).off + 3, none⟩ = some (.int .i64 ((rd_T64 l0_2 t254).f3)) ∧ w'.cell? (ad258.add ((t256).toNat * 4)) = some (.int .i64 ((rd_T64 l1_2 t256).f0)) ∧ w'.cell? ⟨(ad258.add ((t256).toNat * 4)).block, (ad258.add ((t256).toNat * 4)).off + 1, none⟩ = some (.bool ((rd_T64 l1_2 t256).f1)) ∧ w'.cell? ⟨(ad258.add ((t256).toNat * 4)).block, (ad258.add ((t256).toNat * 4)).off + 2, none⟩ = some (.int .i64 ((rd_T64 l1_2 t256).f2)) ∧ w'.cell? ⟨(ad258.add ((t256).toNat * 4)).block, (ad258.add ((t256).toNat * 4)).off + 3, none⟩ = some (.int .i64 ((rd_T64 l1_2 t256).f3))) (ds := []) (bm 14 0) (by kernel_rfl) rfl (bm0 _) ⟨bc0 BK230, bc1 BK230, bc2 BK230, bc0 BK231, bc1 BK231, bc2 BK231, (hL HB hw257_0), (hL HB hw257_1), (hL HB hw257_2), (hL HB hw257_3), (hL HB hw258_0), (hL HB hw258_1), (hL HB hw258_2), (hL HB hw258_3)⟩ (fun hHeld => ?_); refine with_tabW spec_FollowPairs.tab22 spec_FollowPairs.bits22 (fun HT_ HW_ => ?_)
                    generalize wc.drew = w59 at HO_5 HO_10 BK230 BK231 HB hx257_0 hx257_1 hx257_2 hx257_3 hx258_0 hx258_1 hx258_2 hx258_3 hHeld ⊢
                    refine pU 0 (some 89) (bm 14 1) HT_ rfl rfl ?_
                    refine pU 2 (some 91) (bm 14 5) HT_ rfl rfl ?_
                    refine pU 6 (some 95) (bm 14 69) HT_ rfl rfl ?_
                    refine pU 8 (some 97) (bm 14 325) HT_ rfl rfl ?_
                    refine tU 1 (some 90) (bm 14 327) HT_ HW_ rfl rfl hHeld ?_
                    refine pU 3 (some 92) (bm 14 335) HT_ rfl rfl ?_
                    refine pU 4 (some 93) (bm 14 351) HT_ rfl rfl ?_
                    refine tU 5 (some 94) (bm 14 383) HT_ HW_ rfl rfl hHeld ?_
                    refine tU 7 (some 96) (bm 14 511) HT_ HW_ rfl rfl hHeld ?_
                    refine pU 9 (some 98) (bm 14 1023) HT_ rfl rfl ?_
                    refine pU 10 (some 99) (bm 14 2047) HT_ rfl rfl ?_
                    refine tU 11 (some 100) (bm 14 4095) HT_ HW_ rfl rfl hHeld ?_
                    refine one_ (i := 12) (N := some 101) (bm 14 8191) rfl rfl (one_of HT_.out (by kernel_rfl)) (by decide) (fun K hK => ?_)
                    refine Kd.R_lit_step (Kd.int .i64) _ 3 ?hg (N := 101) ?hd (xs := ([(rd_T64 l0_2 t254).f3, (rd_T64 l1_2 t256).f3] : List Int)) (inner := [.int .i64 ((rd_T64 l0_2 t254).f3), .int .i64 ((rd_T64 l1_2 t256).f3)]) (ok := fun _ => True) (okp := fun _ => True) ?hr ?hp (fun _ hk => hk) trivial (Below.refl _ _) (Nat.le_refl _) (by simp) ?_; (case hd => rfl); (case hg => rfl); (case hr => first | (go_simp; done) | (go_simp; rfl)); (case hp => exact (Reps.one (show Kd.M (Kd.int .i64) _ _ _ ((rd_T64 l0_2 t254).f3) [.int .i64 ((rd_T64 l0_2 t254).f3)] from rfl) (Reps.one (show Kd.M (Kd.int .i64) _ _ _ ((rd_T64 l1_2 t256).f3) [.int .i64 ((rd_T64 l1_2 t256).f3)] from rfl) (Reps.none _ _))))
                    intro v260 w60 ho61 hb hg_ hnew_
                    clear hg_ hnew_
                    (first | rw [← Ny259.out] at ho61 | (simp only [Int.reduceToNat] at ho61; rw [← Ny259.out] at ho61))
                    replace HO_5 := Aside0.mk (Kd.S_elder' (zS HO_5) (Kd.R_base ho61) hb)
                    have HO261 := Aside0.mk (Kd.R_lower (Kd.R_new' ho61 (Kd.R_lt (zR HO_10))) (below_size (zB HB)))
                    replace HO_10 := Aside0.mk (Kd.R_elder' (zR HO_10) (Kd.R_base ho61) hb)
                    replace BK230 := kB BK230 hb
                    replace BK231 := kB BK231 hb
                    replace HB := bS HB hb
                    clear hb ho61
                    refine hK.out _ _ ⟨bc0 BK230, bc1 BK230, bc2 BK230, bc0 BK231, bc1 BK231, bc2 BK231, (hL HB hw257_0), (hL HB hw257_1), (hL HB hw257_2), (hL HB hw257_3), (hL HB hw258_0), (hL HB hw258_1), (hL HB hw258_2), (hL HB hw258_3)⟩ (fun hHeld => ?_)
                    clear hK K
                    refine norm_ (a' := ?_) ?_ ?_
                    rotate_left
                    ·show Act.put _ (some 101) _ = _
                     simp only [Act.put, List.setIfInBounds_toArray, List.set_cons_zero, List.set_cons_succ, i64_w, i32_w]
                     rfl
                    refine pU 13 (some 14) (bm 14 16383) HT_ rfl rfl ?_
                    refine done_ (done_of HT_.out (by kernel_rfl)) ?_
                    try clear hHeld
                    obtain ⟨Ao62, co62, eo62⟩ := Kd.S_slice HO_5.out
                    subst eo62
                    obtain ⟨Ao63, co63, eo63⟩ := Kd.R_slice HO261.out
                    subst eo63
                    try go_wp2_with (first | ((with_reducible refine gate_callee (f := 38) rfl ?_); refine goesL_ (some 104) rfl rfl Try.func38 (by kernel_rfl) rfl #[.slice Ao62 x5_5.length co62, .slice Ao63 y259.length co63] rfl zG ?_; (with_reducible refine (spec_l14Has.calls kj44 _ _ x5_5 _ _ y259 true _ ?side1 ?side2 ?side3 ?side4 A57.out).mono ?_); (case side1 => repeat (first | exact (Kd.S_reads' HO_5.out).2.2 | (with_reducible refine Kd.C_alloc ?_ _) | (with_reducible refine Kd.C_drewN ?_ _) | (with_reducible refine Kd.C_drew ?_))); (case side2 => exact (Kd.S_reads' HO_5.out).2.1); (case side3 => repeat (first | exact (Kd.R_reads' HO261.out).2.2 | (with_reducible refine Kd.C_alloc ?_ _) | (with_reducible refine Kd.C_drewN ?_ _) | (with_reducible refine Kd.C_drew ?_))); (case side4 => exact (Kd.R_reads' HO261.out).2.1); rintro e w' ⟨rfl, ⟨nd, rfl⟩⟩; refine ⟨_, rfl, ?_⟩))
                    go_roundg kj44
                    case measure => have := HJ2.out; have := HK2.out; have := HK3.out; have := HJ31.out; have := HK5.out; have := HJ44.out; omega
                    case rel => exact ⟨(x5_5), (wrap64 (x11_5 + 1)), zF, H', ⟨by have := HJ2.out; have := HK2.out; have := HK3.out; have := HJ31.out; have := HK5.out; have := HJ44.out; omega⟩, ⟨by (with_reducible repeat (first | apply Kd.S_alloc | apply Kd.S_drewN | apply Kd.S_drew)); exact Kd.S_mono HO_5.out (fun _ hk => hk.1)⟩, ⟨by (with_reducible repeat (first | apply Kd.R_alloc | apply Kd.R_drewN | apply Kd.R_drew)); exact Kd.R_mono HO_10.out (fun _ hk => trivial)⟩, ⟨zK BK230⟩, ⟨zK BK231⟩, ⟨zB HB⟩⟩
                   ·replace c58 := Bool.eq_false_iff.mpr c58
                    subst c58
                    have H1 : (if x5_5.length < 5864062014805 then (spec_FollowPairs.l2 kj44 (x5_5 ++ [y259]) x6_2 (rd (rd_L4 x5_2 x6_2) 0) (rd (rd_L4 x5_2 x6_2) 1) x9_3 x10_31 (wrap64 (x11_5 + 1)) a0_0 l0_1 l0_2 a1_0 l1_1 l1_2) else (none)) = some r := by rw [if_neg (show ¬ (false = true) by decide)] at H; exact H
                    clear H
                    have H := H1
                    clear H1
                    obtain ⟨c64, H⟩ := ifS H
                    have LMc64 := Aside0.mk c64
                    clear c64
                    obtain ⟨y263, hy263⟩ : ∃ y_ : List (List Int), y_ = (x5_5 ++ [y259]) := ⟨_, rfl⟩
                    replace H : (spec_FollowPairs.l2 kj44 y263 x6_2 (rd (rd_L4 x5_2 x6_2) 0) (rd (rd_L4 x5_2 x6_2) 1) x9_3 x10_31 (wrap64 (x11_5 + 1)) a0_0 l0_1 l0_2 a1_0 l1_1 l1_2) = some r := by first | (rw [hy263]; with_reducible exact H) | (have H2_ := (Option.bind_some _ _).symm.trans H; rw [hy263]; with_reducible exact H2_) | (have H2_ := (Option.bind_some _ _).symm.trans H; with_reducible exact H2_) | with_reducible exact H | (rw [hy263]; exact H) | exact H
                    have Ny263 := Aside0.mk hy263
                    clear hy263
                    have H' := Aside0.mk H
                    clear H
                    try go_wp2
                    replace HO_5 := Aside0.mk (Kd.S_drew HO_5.out)
                    replace HO_10 := Aside0.mk (Kd.R_drew HO_10.out)
                    replace BK230 := Aside0.mk (blk_drew BK230.out)
                    replace BK231 := Aside0.mk (blk_drew BK231.out)
                    replace HB := Aside0.mk (below_drew1 HB.out)
                    have p257 : 0 ≤ (t254 : Int) := zD
                    have q257 : t254 < (l0_2.length : Int) := zD
                    obtain ⟨ad257, e257, hx257_0, hx257_1, hx257_2, hx257_3⟩ := at_T64 HR0_2.out t254 p257 q257
                    have hw257_3 := hx257_3
                    have hw257_2 := hx257_2
                    have hw257_1 := hx257_1
                    have hw257_0 := hx257_0
                    cases e257
                    replace hx257_0 := hL HB hx257_0
                    replace hx257_1 := hL HB hx257_1
                    replace hx257_2 := hL HB hx257_2
                    replace hx257_3 := hL HB hx257_3
                    replace p257 := eq_true p257
                    replace q257 := eq_true q257
                    have p258 : 0 ≤ (t256 : Int) := zD
                    have q258 : t256 < (l1_2.length : Int) := zD
                    obtain ⟨ad258, e258, hx258_0, hx258_1, hx258_2, hx258_3⟩ := at_T64 HR1_2.out t256 p258 q258
                    have hw258_3 := hx258_3
                    have hw258_2 := hx258_2
                    have hw258_1 := hx258_1
                    have hw258_0 := hx258_0
                    cases e258
                    replace hx258_0 := hL HB hx258_0
                    replace hx258_1 := hL HB hx258_1
                    replace hx258_2 := hL HB hx258_2
                    replace hx258_3 := hL HB hx258_3
                    replace p258 := eq_true p258
                    replace q258 := eq_true q258
                    refine start_ (n := 14) (S := fun w' => w'.cell? ⟨gb230, 0, none⟩ = some (.int .i64 a0_0) ∧ w'.cell? ⟨gb230, 1, none⟩ = some (.slice A0_1 l0_1.length c0_1) ∧ w'.cell? ⟨gb230, 2, none⟩ = some (.slice (some ad257) l0_2.length c0_2) ∧ w'.cell? ⟨gb231, 0, none⟩ = some (.int .i64 a1_0) ∧ w'.cell? ⟨gb231, 1, none⟩ = some (.slice A1_1 l1_1.length c1_1) ∧ w'.cell? ⟨gb231, 2, none⟩ = some (.slice (some ad258) l1_2.length c1_2) ∧ w'.cell? (ad257.add ((t254).toNat * 4)) = some (.int .i64 ((rd_T64 l0_2 t254).f0)) ∧ w'.cell? ⟨(ad257.add ((t254).toNat * 4)).block, (ad257.add ((t254).toNat * 4)).off + 1, none⟩ = some (.bool ((rd_T64 l0_2 t254).f1)) ∧ w'.cell? ⟨(ad257.add ((t254).toNat * 4)).block, (ad257.add ((t254).toNat * 4)).off + 2, none⟩ = some (.int .i64 ((rd_T64 l0_2 t254).f2)) ∧ w'.cell? ⟨(ad257.add ((t254).toNat * 4)).block, (ad257.add ((t254).toNat * 4)).off + 3, none⟩ = some (.int .i64 ((rd_T64 l0_2 t254).f3)) ∧ w'.cell? (ad258.add ((t256).toNat * 4)) = some (.int .i64 ((rd_T64 l1_2 t256).f0)) ∧ w'.cell? ⟨(ad258.add ((t256).toNat * 4)).block, (ad258.add ((t256).toNat * 4)).off + 1, none⟩ = some (.bool ((rd_T64 l1_2 t256).f1)) ∧ w'.cell? ⟨(ad258.add ((t256).toNat * 4)).block, (ad258.add ((t256).toNat * 4)).off + 2, none⟩ = some (.int .i64 ((rd_T64 l1_2 t256).f2)) ∧ w'.cell? ⟨(ad258.add ((t256).toNat * 4)).block, (ad258.add ((t256).toNat * 4)).off + 3, none⟩ = some (.int .i64 ((rd_T64 l1_2 t256).f3))) (ds := []) (bm 14 0) (by kernel_rfl) rfl (bm0 _) ⟨bc0 BK230, bc1 BK230, bc2 BK230, bc0 BK231, bc1 BK231, bc2 BK231, (hL HB hw257_0), (hL HB hw257_1), (hL HB hw257_2), (hL HB hw257_3), (hL HB hw258_0), (hL HB hw258_1), (hL HB hw258_2), (hL HB hw258_3)⟩ (fun hHeld => ?_); refine with_tabW spec_FollowPairs.tab22 spec_FollowPairs.bits22 (fun HT_ HW_ => ?_)
                    generalize wc.drew = w65 at HO_5 HO_10 BK230 BK231 HB hx257_0 hx257_1 hx257_2 hx257_3 hx258_0 hx258_1 hx258_2 hx258_3 hHeld ⊢
                    refine pU 0 (some 89) (bm 14 1) HT_ rfl rfl ?_
                    refine pU 2 (some 91) (bm 14 5) HT_ rfl rfl ?_
                    refine pU 6 (some 95) (bm 14 69) HT_ rfl rfl ?_
                    refine pU 8 (some 97) (bm 14 325) HT_ rfl rfl ?_
                    refine tU 1 (some 90) (bm 14 327) HT_ HW_ rfl rfl hHeld ?_
                    refine pU 3 (some 92) (bm 14 335) HT_ rfl rfl ?_
                    refine pU 4 (some 93) (bm 14 351) HT_ rfl rfl ?_
                    refine tU 5 (some 94) (bm 14 383) HT_ HW_ rfl rfl hHeld ?_
                    refine tU 7 (some 96) (bm 14 511) HT_ HW_ rfl rfl hHeld ?_
                    refine pU 9 (some 98) (bm 14 1023) HT_ rfl rfl ?_
                    refine pU 10 (some 99) (bm 14 2047) HT_ rfl rfl ?_
                    refine tU 11 (some 100) (bm 14 4095) HT_ HW_ rfl rfl hHeld ?_
                    refine one_ (i := 12) (N := some 101) (bm 14 8191) rfl rfl (one_of HT_.out (by kernel_rfl)) (by decide) (fun K hK => ?_)
                    refine Kd.R_lit_step (Kd.int .i64) _ 3 ?hg (N := 101) ?hd (xs := ([(rd_T64 l0_2 t254).f3, (rd_T64 l1_2 t256).f3] : List Int)) (inner := [.int .i64 ((rd_T64 l0_2 t254).f3), .int .i64 ((rd_T64 l1_2 t256).f3)]) (ok := fun _ => True) (okp := fun _ => True) ?hr ?hp (fun _ hk => hk) trivial (Below.refl _ _) (Nat.le_refl _) (by simp) ?_; (case hd => rfl); (case hg => rfl); (case hr => first | (go_simp; done) | (go_simp; rfl)); (case hp => exact (Reps.one (show Kd.M (Kd.int .i64) _ _ _ ((rd_T64 l0_2 t254).f3) [.int .i64 ((rd_T64 l0_2 t254).f3)] from rfl) (Reps.one (show Kd.M (Kd.int .i64) _ _ _ ((rd_T64 l1_2 t256).f3) [.int .i64 ((rd_T64 l1_2 t256).f3)] from rfl) (Reps.none _ _))))
                    intro v260 w66 ho67 hb hg_ hnew_
                    clear hg_ hnew_
                    (first | rw [← Ny259.out] at ho67 | (simp only [Int.reduceToNat] at ho67; rw [← Ny259.out] at ho67))
                    replace HO_5 := Aside0.mk (Kd.S_elder' (zS HO_5) (Kd.R_base ho67) hb)
                    have HO261 := Aside0.mk (Kd.R_lower (Kd.R_new' ho67 (Kd.R_lt (zR HO_10))) (below_size (zB HB)))
                    replace HO_10 := Aside0.mk (Kd.R_elder' (zR HO_10) (Kd.R_base ho67) hb)
                    replace BK230 := kB BK230 hb
                    replace BK231 := kB BK231 hb
                    replace HB := bS HB hb
                    clear hb ho67
                    refine hK.out _ _ ⟨bc0 BK230, bc1 BK230, bc2 BK230, bc0 BK231, bc1 BK231, bc2 BK231, (hL HB hw257_0), (hL HB hw257_1), (hL HB hw257_2), (hL HB hw257_3), (hL HB hw258_0), (hL HB hw258_1), (hL HB hw258_2), (hL HB hw258_3)⟩ (fun hHeld => ?_)
                    clear hK K
                    refine norm_ (a' := ?_) ?_ ?_
                    rotate_left
                    ·show Act.put _ (some 101) _ = _
                     simp only [Act.put, List.setIfInBounds_toArray, List.set_cons_zero, List.set_cons_succ, i64_w, i32_w]
                     rfl
                    refine pU 13 (some 14) (bm 14 16383) HT_ rfl rfl ?_
                    refine done_ (done_of HT_.out (by kernel_rfl)) ?_
                    try clear hHeld
                    obtain ⟨Ao68, co68, eo68⟩ := Kd.S_slice HO_5.out
                    subst eo68
                    obtain ⟨Ao69, co69, eo69⟩ := Kd.R_slice HO261.out
                    subst eo69
                    try go_wp2_with (first | ((with_reducible refine gate_callee (f := 38) rfl ?_); refine goesL_ (some 104) rfl rfl Try.func38 (by kernel_rfl) rfl #[.slice Ao68 x5_5.length co68, .slice Ao69 y259.length co69] rfl zG ?_; (with_reducible refine (spec_l14Has.calls kj44 _ _ x5_5 _ _ y259 false _ ?side1 ?side2 ?side3 ?side4 A57.out).mono ?_); (case side1 => repeat (first | exact (Kd.S_reads' HO_5.out).2.2 | (with_reducible refine Kd.C_alloc ?_ _) | (with_reducible refine Kd.C_drewN ?_ _) | (with_reducible refine Kd.C_drew ?_))); (case side2 => exact (Kd.S_reads' HO_5.out).2.1); (case side3 => repeat (first | exact (Kd.R_reads' HO261.out).2.2 | (with_reducible refine Kd.C_alloc ?_ _) | (with_reducible refine Kd.C_drewN ?_ _) | (with_reducible refine Kd.C_drew ?_))); (case side4 => exact (Kd.R_reads' HO261.out).2.1); rintro e w' ⟨rfl, ⟨nd, rfl⟩⟩; refine ⟨_, rfl, ?_⟩) | ((with_reducible refine gate_builtin (b := .append) (xs := #[.tmp 106, .tmp 108]) rfl ?_); at_builtin; refine Kd.S_append (Kd.slice 3 (Kd.int .i64)) (w0 := w) w.heap.size rfl (.tmp 106) (.tmp 108) 27 38 (.slice none 0 0) 24 rfl Try.underlying27 info38 rfl (by decide) (by omega) (.slice Ao68 x5_5.length co68) x5_5 y259 [.slice Ao69 y259.length co69] (fun k_ => some k_ ≠ (.slice (some ad253) x10_31.length co46 : Value).ownBlock) (fun k_ => some k_ = (.slice Ao69 y259.length co69 : Value).ownBlock) rfl rfl ?aP (fun k_ hk_ => ((Kd.R_mono (ok' := fun k_ => ((fun k_ => some k_ ≠ (.slice (some ad253) x10_31.length co46 : Value).ownBlock)) k_ ∧ some k_ ≠ (.slice Ao68 x5_5.length co68 : Value).ownBlock) (Kd.R_apart' (HO261.out) (Kd.S_typed HO_5.out) (by decide)) (fun k_ hk => ⟨hk.1.2, hk.2⟩))).1 k_ hk_.symm) ?aF ?aO ?aB ?aS ?aL ?_; (case aP => exact Kd.M_row (Kd.R_mono (Kd.R_tight rfl (Kd.R_mono (ok' := fun k_ => ((fun k_ => some k_ ≠ (.slice (some ad253) x10_31.length co46 : Value).ownBlock)) k_ ∧ some k_ ≠ (.slice Ao68 x5_5.length co68 : Value).ownBlock) (Kd.R_apart' (HO261.out) (Kd.S_typed HO_5.out) (by decide)) (fun k_ hk => ⟨hk.1.2, hk.2⟩))) (fun _ h_ => h_))); (case aB => exact (zB HB)); (case aF => exact (fun k_ hk => Kd.fresh' (Kd.R_lt (zR HO_10)) k_ hk)); (case aO => exact (by (with_reducible repeat (first | apply Kd.S_alloc | apply Kd.S_drewN | apply Kd.S_drew)); exact Kd.S_mono HO_5.out (fun k_ hk => ⟨hk.1, fun e_ => hk.2 e_⟩))); (case aS => exact (below_size (zB HB))); (case aL => have := LMc64.out; omega); intro v264 w70 ho hb hg hat; rw [← Ny263.out] at ho; replace HO_10 := Aside0.mk (Kd.R_over' (zR HO_10) (Kd.S_typed (zS HO_5)) (by decide) hg); replace BK230 := Aside0.mk (blk_grown (g := gb230) (o := .cells #[.int .i64 a0_0, .slice A0_1 l0_1.length c0_1, .slice (some ad257) l0_2.length c0_2] 31 (0, 0)) (zK BK230) hg (Kd.S_ne HO_5.out BK230.out (by decide))); replace BK231 := Aside0.mk (blk_grown (g := gb231) (o := .cells #[.int .i64 a1_0, .slice A1_1 l1_1.length c1_1, .slice (some ad258) l1_2.length c1_2] 31 (0, 0)) (zK BK231) hg (Kd.S_ne HO_5.out BK231.out (by decide))); replace HB := Aside0.mk (hb); have HO265 := Aside0.mk (ho); clear HO_5 HO261; clear ho hb hg hat))
                    go_roundg kj44
                    case measure => have := HJ2.out; have := HK2.out; have := HK3.out; have := HJ31.out; have := HK5.out; have := HJ44.out; omega
                    case rel => exact ⟨(y263), (wrap64 (x11_5 + 1)), zF, H', ⟨by have := HJ2.out; have := HK2.out; have := HK3.out; have := HJ31.out; have := HK5.out; have := HJ44.out; omega⟩, ⟨zS HO265⟩, ⟨by (with_reducible repeat (first | apply Kd.R_alloc | apply Kd.R_drewN | apply Kd.R_drew)); exact Kd.R_mono HO_10.out (fun _ hk => trivial)⟩, ⟨zK BK230⟩, ⟨zK BK231⟩, ⟨zB HB⟩⟩
               ·rw [if_neg c41] at H
                have c41b0 : decide (x11_5 < (x10_31.length : Int)) = false := decide_eq_false c41
                clear c41
                have H' := Aside0.mk H
                clear H
                obtain ⟨Ao71, co71, eo71⟩ := Kd.R_slice HO_10.out
                subst eo71
                go_wp2
                go_roundg k5
                case measure => have := HJ2.out; have := HK2.out; have := HK3.out; have := HJ31.out; have := HK5.out; omega
                case rel => exact ⟨(x5_5), (wrap64 (x9_3 - 1)), zF, H', ⟨by have := HJ2.out; have := HK2.out; have := HK3.out; have := HJ31.out; have := HK5.out; omega⟩, ⟨by (with_reducible repeat (first | apply Kd.S_alloc | apply Kd.S_drewN | apply Kd.S_drew)); exact Kd.S_mono HO_5.out (fun _ hk => trivial)⟩, ⟨zK BK230⟩, ⟨zK BK231⟩, ⟨zB HB⟩⟩
          ·rw [if_neg c30] at H
           have c30b0 : decide (0 ≤ x9_3) = false := decide_eq_false c30
           clear c30
           have H' := Aside0.mk H
           clear H
           go_wp2
           go_roundg k3
           case measure => have := HJ2.out; have := HK2.out; have := HK3.out; omega
           case rel => exact ⟨(x5_3), (wrap64 (x6_2 + 1)), zF, H', ⟨by have := HJ2.out; have := HK2.out; have := HK3.out; omega⟩, ⟨zS HO_5⟩, ⟨zK BK230⟩, ⟨zK BK231⟩, ⟨zB HB⟩⟩
       ·rw [if_neg c25] at H
        have c25b0 : decide (x6_2 < (x5_2.length : Int)) = false := decide_eq_false c25
        clear c25
        obtain rfl := Option.some.inj H
        obtain ⟨Ao72, co72, eo72⟩ := Kd.S_slice HO_5.out
        subst eo72
        go_wp2
        go_ret
        exact ⟨_, zE, by (with_reducible repeat (first | apply Kd.S_alloc | apply Kd.S_drewN | apply Kd.S_drew)); exact HO_5.out, zB HB⟩
    ·rw [if_neg c20] at H
     exact absurd H (by simp)

end Go.Proofs.Ytmenijbpglknbaa.PFnExactFollowPairs
