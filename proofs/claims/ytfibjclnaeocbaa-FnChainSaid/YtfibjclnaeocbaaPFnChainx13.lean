-- WRITTEN by pp.py, this session's own wrapper around the print; not trusted: Lean checks it
import Derived.Test.YtfibjclnaeocbaaPFnChainx0
import Derived.Test.YtfibjclnaeocbaaPFnChainx2
import Derived.Test.YtfibjclnaeocbaaPFnChainx4
import Derived.Test.YtfibjclnaeocbaaPFnChainx12
namespace Go.Proofs.Ytfibjclnaeocbaa.PFnChain
open Go.RowKit Go.Proofs.Ytfibjclnaeocbaa.Hw Go.Proofs.YtfibjclnaeocbaaW.PrintWords Go.Proofs.YtfibjclnaeocbaaW.PrintLast Go.Proofs.YtfibjclnaeocbaaW.PrintMore
attribute [local go_sem] max2_int min2_int max_two min_two max_three min_three max_four min_four   -- for this text's walks alone
set_option linter.unusedVariables false
set_option linter.unusedSimpArgs false
set_option linter.unusedSectionVars false

/-! ### spec_FollowPairs: function 50 -/
mutual
def spec_FollowPairs.j0 : Nat → List (List Int) → Bool → Int → List Bool → List (S46) → Int → List Bool → List (S46) → Option ((List (List Int)))
 | 0, _, _, _, _, _, _, _, _ => none
 | k + 1, x5, x23, x455000, x455001, x455002, x456000, x456001, x456002 => if x23 = true then (some x5) else (if x5.length < 5864062014805 then (spec_FollowPairs.l0 k (x5 ++ [(([0, 0] : List Int))]) 0 x455000 x455001 x455002 x456000 x456001 x456002) else (none))
def spec_FollowPairs.l0 : Nat → List (List Int) → Int → Int → List Bool → List (S46) → Int → List Bool → List (S46) → Option ((List (List Int)))
 | 0, _, _, _, _, _, _, _, _ => none
 | k + 1, x5, x6, x455000, x455001, x455002, x456000, x456001, x456002 => if x6 < (x5.length : Int) then (if 0 ≤ x6 then (if 0 < ((rd_L7 x5 x6).length : Int) then (if 1 < ((rd_L7 x5 x6).length : Int) then (spec_FollowPairs.l1 k x5 x6 (rd (rd_L7 x5 x6) 0) (rd (rd_L7 x5 x6) 1) 1 x455000 x455001 x455002 x456000 x456001 x456002) else (none)) else (none)) else (none)) else (some x5)
def spec_FollowPairs.l1 : Nat → List (List Int) → Int → Int → Int → Int → Int → List Bool → List (S46) → Int → List Bool → List (S46) → Option ((List (List Int)))
 | 0, _, _, _, _, _, _, _, _, _, _, _ => none
 | k + 1, x5, x6, x7, x8, x9, x455000, x455001, x455002, x456000, x456001, x456002 => if x9 ≥ 0 then ((spec_MovesFrom.f k x455000 x455001 x455002 x7 true).bind fun t471 => (if x9 = 0 then ((spec_MovesFrom.f k x456000 x456001 x456002 x8 false).bind fun t474 => (spec_FollowPairs.j3 k x5 x6 x7 x8 x9 t474 x455000 x455001 x455002 x456000 x456001 x456002)) else (spec_FollowPairs.j3 k x5 x6 x7 x8 x9 t471 x455000 x455001 x455002 x456000 x456001 x456002))) else (spec_FollowPairs.l0 k x5 (wrap64 (x6 + 1)) x455000 x455001 x455002 x456000 x456001 x456002)
def spec_FollowPairs.j3 : Nat → List (List Int) → Int → Int → Int → Int → List Int → Int → List Bool → List (S46) → Int → List Bool → List (S46) → Option ((List (List Int)))
 | 0, _, _, _, _, _, _, _, _, _, _, _, _ => none
 | k + 1, x5, x6, x7, x8, x9, x10, x455000, x455001, x455002, x456000, x456001, x456002 => spec_FollowPairs.l2 k x5 x6 x7 x8 x9 x10 0 x455000 x455001 x455002 x456000 x456001 x456002
def spec_FollowPairs.l2 : Nat → List (List Int) → Int → Int → Int → Int → List Int → Int → Int → List Bool → List (S46) → Int → List Bool → List (S46) → Option ((List (List Int)))
 | 0, _, _, _, _, _, _, _, _, _, _, _, _, _ => none
 | k + 1, x5, x6, x7, x8, x9, x10, x11, x455000, x455001, x455002, x456000, x456001, x456002 => if x11 < (x10.length : Int) then (if 0 ≤ x11 then ((spec_MoveOf.f k x455000 x455001 x455002 x7 (x9 == 1) (rd x10 x11)).bind fun t478 => ((spec_MoveOf.f k x456000 x456001 x456002 x8 (x9 == 1) (rd x10 x11)).bind fun t480 => (if t478 < 0 then (spec_FollowPairs.j5 k x5 x6 x7 x8 x9 x10 x11 t478 t480 true x455000 x455001 x455002 x456000 x456001 x456002) else (spec_FollowPairs.j5 k x5 x6 x7 x8 x9 x10 x11 t478 t480 (decide (t480 < 0)) x455000 x455001 x455002 x456000 x456001 x456002)))) else (none)) else (spec_FollowPairs.l1 k x5 x6 x7 x8 (wrap64 (x9 - 1)) x455000 x455001 x455002 x456000 x456001 x456002)
def spec_FollowPairs.j5 : Nat → List (List Int) → Int → Int → Int → Int → List Int → Int → Int → Int → Bool → Int → List Bool → List (S46) → Int → List Bool → List (S46) → Option ((List (List Int)))
 | 0, _, _, _, _, _, _, _, _, _, _, _, _, _, _, _, _ => none
 | k + 1, x5, x6, x7, x8, x9, x10, x11, x12, x13, x88, x455000, x455001, x455002, x456000, x456001, x456002 => if x88 = true then (spec_FollowPairs.l2 k x5 x6 x7 x8 x9 x10 (wrap64 (x11 + 1)) x455000 x455001 x455002 x456000 x456001 x456002) else (if 0 ≤ x12 then (if x12 < (x455002.length : Int) then (if 0 ≤ x13 then (if x13 < (x456002.length : Int) then ((some (([(rd_T46 x455002 x12).f3, (rd_T46 x456002 x13).f3] : List Int) : List Int)).bind fun y483 => ((spec_l14Has.f k x5 y483).bind fun t486 => (if t486 = true then (spec_FollowPairs.l2 k x5 x6 x7 x8 x9 x10 (wrap64 (x11 + 1)) x455000 x455001 x455002 x456000 x456001 x456002) else (if x5.length < 5864062014805 then (spec_FollowPairs.l2 k (x5 ++ [y483]) x6 x7 x8 x9 x10 (wrap64 (x11 + 1)) x455000 x455001 x455002 x456000 x456001 x456002) else (none))))) else (none)) else (none)) else (none)) else (none))
end
def spec_FollowPairs.f (k : Nat) (a0_0 : Int) (l0_1 : List Bool) (l0_2 : List (S46)) (a1_0 : Int) (l1_1 : List Bool) (l1_2 : List (S46)) : Option ((List (List Int))) := (some (([] : List (List Int)) : List (List Int))).bind fun y456 => ((spec_IsMachine.f k a0_0 l0_1 l0_2).bind fun t459 => (if t459 = true then ((spec_IsMachine.f k a1_0 l1_1 l1_2).bind fun t460 => (spec_FollowPairs.j0 k y456 (!t460) a0_0 l0_1 l0_2 a1_0 l1_1 l1_2)) else (spec_FollowPairs.j0 k y456 true a0_0 l0_1 l0_2 a1_0 l1_1 l1_2)))
theorem spec_FollowPairs.mono_l : ∀ k, (∀ y0 y1 y2 y3 y4 y5 y6 y7, LeO (spec_FollowPairs.j0 k y0 y1 y2 y3 y4 y5 y6 y7) (spec_FollowPairs.j0 (k + 1) y0 y1 y2 y3 y4 y5 y6 y7)) ∧ (∀ y0 y1 y2 y3 y4 y5 y6 y7, LeO (spec_FollowPairs.l0 k y0 y1 y2 y3 y4 y5 y6 y7) (spec_FollowPairs.l0 (k + 1) y0 y1 y2 y3 y4 y5 y6 y7)) ∧ (∀ y0 y1 y2 y3 y4 y5 y6 y7 y8 y9 y10, LeO (spec_FollowPairs.l1 k y0 y1 y2 y3 y4 y5 y6 y7 y8 y9 y10) (spec_FollowPairs.l1 (k + 1) y0 y1 y2 y3 y4 y5 y6 y7 y8 y9 y10)) ∧ (∀ y0 y1 y2 y3 y4 y5 y6 y7 y8 y9 y10 y11, LeO (spec_FollowPairs.j3 k y0 y1 y2 y3 y4 y5 y6 y7 y8 y9 y10 y11) (spec_FollowPairs.j3 (k + 1) y0 y1 y2 y3 y4 y5 y6 y7 y8 y9 y10 y11)) ∧ (∀ y0 y1 y2 y3 y4 y5 y6 y7 y8 y9 y10 y11 y12, LeO (spec_FollowPairs.l2 k y0 y1 y2 y3 y4 y5 y6 y7 y8 y9 y10 y11 y12) (spec_FollowPairs.l2 (k + 1) y0 y1 y2 y3 y4 y5 y6 y7 y8 y9 y10 y11 y12)) ∧ (∀ y0 y1 y2 y3 y4 y5 y6 y7 y8 y9 y10 y11 y12 y13 y14 y15, LeO (spec_FollowPairs.j5 k y0 y1 y2 y3 y4 y5 y6 y7 y8 y9 y10 y11 y12 y13 y14 y15) (spec_FollowPairs.j5 (k + 1) y0 y1 y2 y3 y4 y5 y6 y7 y8 y9 y10 y11 y12 y13 y14 y15))
 | 0 => ⟨fun _ _ _ _ _ _ _ _ r h => by simp [spec_FollowPairs.j0] at h, fun _ _ _ _ _ _ _ _ r h => by simp [spec_FollowPairs.l0] at h, fun _ _ _ _ _ _ _ _ _ _ _ r h => by simp [spec_FollowPairs.l1] at h, fun _ _ _ _ _ _ _ _ _ _ _ _ r h => by simp [spec_FollowPairs.j3] at h, fun _ _ _ _ _ _ _ _ _ _ _ _ _ r h => by simp [spec_FollowPairs.l2] at h, fun _ _ _ _ _ _ _ _ _ _ _ _ _ _ _ _ r h => by simp [spec_FollowPairs.j5] at h⟩
 | k + 1 => by
  obtain ⟨ih0, ih1, ih2, ih3, ih4, ih5⟩ := spec_FollowPairs.mono_l k
  refine ⟨?a0, ?a1, ?a2, ?a3, ?a4, ?a5⟩
  case' a0 => intros; unfold spec_FollowPairs.j0
  case' a1 => intros; unfold spec_FollowPairs.l0
  case' a2 => intros; unfold spec_FollowPairs.l1
  case' a3 => intros; unfold spec_FollowPairs.j3
  case' a4 => intros; unfold spec_FollowPairs.l2
  case' a5 => intros; unfold spec_FollowPairs.j5
  all_goals repeat' first
  | (with_reducible exact ih0 _ _ _ _ _ _ _ _)
  | (with_reducible exact ih1 _ _ _ _ _ _ _ _)
  | (with_reducible exact ih2 _ _ _ _ _ _ _ _ _ _ _)
  | (with_reducible exact ih3 _ _ _ _ _ _ _ _ _ _ _ _)
  | (with_reducible exact ih4 _ _ _ _ _ _ _ _ _ _ _ _ _)
  | (with_reducible exact ih5 _ _ _ _ _ _ _ _ _ _ _ _ _ _ _ _)
  | (with_reducible exact spec_IsMachine.mono _ _ _ _)
  | (with_reducible exact spec_MoveOf.mono _ _ _ _ _ _ _)
  | (with_reducible exact spec_MovesFrom.mono _ _ _ _ _ _)
  | (with_reducible exact spec_l14Has.mono _ _ _)
  | (with_reducible exact LeO.refl _)
  | (with_reducible exact LeO.none _)
  | (with_reducible refine LeO.ite ?_ ?_)
  | (with_reducible refine LeO.bind ?_ (fun _ => ?_))
  | exact ih0 _ _ _ _ _ _ _ _
  | exact ih1 _ _ _ _ _ _ _ _
  | exact ih2 _ _ _ _ _ _ _ _ _ _ _
  | exact ih3 _ _ _ _ _ _ _ _ _ _ _ _
  | exact ih4 _ _ _ _ _ _ _ _ _ _ _ _ _
  | exact ih5 _ _ _ _ _ _ _ _ _ _ _ _ _ _ _ _
  | exact spec_IsMachine.mono _ _ _ _
  | exact spec_MoveOf.mono _ _ _ _ _ _ _
  | exact spec_MovesFrom.mono _ _ _ _ _ _
  | exact spec_l14Has.mono _ _ _
  | exact LeO.none _
  | refine LeO.ite ?_ ?_
  | refine LeO.bind ?_ (fun _ => ?_)
theorem spec_FollowPairs.mono : ∀ a0 a1 a2 a3 a4 a5 k, LeO (spec_FollowPairs.f k a0 a1 a2 a3 a4 a5) (spec_FollowPairs.f (k + 1) a0 a1 a2 a3 a4 a5) := by
 intro a0 a1 a2 a3 a4 a5 k
 obtain ⟨ih0, ih1, ih2, ih3, ih4, ih5⟩ := spec_FollowPairs.mono_l k
 unfold spec_FollowPairs.f
 repeat' first
   | (with_reducible exact ih0 _ _ _ _ _ _ _ _)
   | (with_reducible exact ih1 _ _ _ _ _ _ _ _)
   | (with_reducible exact ih2 _ _ _ _ _ _ _ _ _ _ _)
   | (with_reducible exact ih3 _ _ _ _ _ _ _ _ _ _ _ _)
   | (with_reducible exact ih4 _ _ _ _ _ _ _ _ _ _ _ _ _)
   | (with_reducible exact ih5 _ _ _ _ _ _ _ _ _ _ _ _ _ _ _ _)
   | (with_reducible exact spec_IsMachine.mono _ _ _ _)
   | (with_reducible exact spec_MoveOf.mono _ _ _ _ _ _ _)
   | (with_reducible exact spec_MovesFrom.mono _ _ _ _ _ _)
   | (with_reducible exact spec_l14Has.mono _ _ _)
   | (with_reducible exact LeO.refl _)
   | (with_reducible exact LeO.none _)
   | (with_reducible refine LeO.ite ?_ ?_)
   | (with_reducible refine LeO.bind ?_ (fun _ => ?_))
   | exact ih0 _ _ _ _ _ _ _ _
   | exact ih1 _ _ _ _ _ _ _ _
   | exact ih2 _ _ _ _ _ _ _ _ _ _ _
   | exact ih3 _ _ _ _ _ _ _ _ _ _ _ _
   | exact ih4 _ _ _ _ _ _ _ _ _ _ _ _ _
   | exact ih5 _ _ _ _ _ _ _ _ _ _ _ _ _ _ _ _
   | exact spec_IsMachine.mono _ _ _ _
   | exact spec_MoveOf.mono _ _ _ _ _ _ _
   | exact spec_MovesFrom.mono _ _ _ _ _ _
   | exact spec_l14Has.mono _ _ _
   | exact LeO.none _
   | refine LeO.ite ?_ ?_
   | refine LeO.bind ?_ (fun _ => ?_)
def spec_FollowPairs.T19 : Bool × List (List Nat × List Nat) := (true, [([], []), ([], []), ([], []), ([2], [2]), ([], []), ([], []), ([4, 5], [4, 5]), ([6], [6]), ([0, 1, 3, 7], [0, 1, 3, 7]), ([8, 8, 0, 1, 2, 3, 4, 5, 6, 7, 8], [8])])
def spec_FollowPairs.B19 : List Nat := [0, 0, 0, 4, 0, 0, 48, 112, 255, 511]
theorem spec_FollowPairs.tab19 : rtab .any (opsOf Try.f50 19) = spec_FollowPairs.T19 := by kernel_rfl
theorem spec_FollowPairs.bits19 : waitsOk spec_FollowPairs.T19.2 spec_FollowPairs.B19 = true := by kernel_rfl
def spec_FollowPairs.T20 : Bool × List (List Nat × List Nat) := (true, [([], []), ([], []), ([], []), ([2], [2]), ([], []), ([], []), ([4, 5], [4, 5]), ([6], [6]), ([0, 1, 3, 7], [0, 1, 3, 7]), ([8, 8, 0, 1, 2, 3, 4, 5, 6, 7, 8], [8])])
def spec_FollowPairs.B20 : List Nat := [0, 0, 0, 4, 0, 0, 48, 112, 255, 511]
theorem spec_FollowPairs.tab20 : rtab .any (opsOf Try.f50 20) = spec_FollowPairs.T20 := by kernel_rfl
theorem spec_FollowPairs.bits20 : waitsOk spec_FollowPairs.T20.2 spec_FollowPairs.B20 = true := by kernel_rfl
def spec_FollowPairs.T22 : Bool × List (List Nat × List Nat) := (true, [([], []), ([0], [0]), ([], []), ([1, 2], [1, 2]), ([3], [3]), ([4], [4]), ([], []), ([6], [6]), ([], []), ([7, 8], [7, 8]), ([9], [9]), ([10], [10]), ([5, 11], [5, 11]), ([12, 0, 1, 2, 3, 4, 5, 6, 7, 8, 9, 10, 11, 12], [12])])
def spec_FollowPairs.B22 : List Nat := [0, 1, 0, 7, 15, 31, 0, 64, 0, 448, 960, 1984, 4095, 8191]
theorem spec_FollowPairs.tab22 : rtab .any (opsOf Try.f50 22) = spec_FollowPairs.T22 := by kernel_rfl
theorem spec_FollowPairs.bits22 : waitsOk spec_FollowPairs.T22.2 spec_FollowPairs.B22 = true := by kernel_rfl
set_option maxHeartbeats 8000000 in
set_option maxRecDepth 100000 in
theorem spec_FollowPairs.calls (k : Nat) (a0_0 : Int) (A0_1 : Option Addr) (c0_1 : Nat) (l0_1 : List Bool) (A0_2 : Option Addr) (c0_2 : Nat) (l0_2 : List (S46)) (a1_0 : Int) (A1_1 : Option Addr) (c1_1 : Nat) (l1_1 : List Bool) (A1_2 : Option Addr) (c1_2 : Nat) (l1_2 : List (S46)) (r : List (List Int)) (w : World) (hr0_1 : Kd.C Kd.bool w A0_1 l0_1.length l0_1) (hc0_1 : l0_1.length ≤ c0_1) (hr0_2 : Kd.C k46 w A0_2 l0_2.length l0_2) (hc0_2 : l0_2.length ≤ c0_2) (hr1_1 : Kd.C Kd.bool w A1_1 l1_1.length l1_1) (hc1_1 : l1_1.length ≤ c1_1) (hr1_2 : Kd.C k46 w A1_2 l1_2.length l1_2) (hc1_2 : l1_2.length ≤ c1_2) (h : spec_FollowPairs.f k a0_0 l0_1 l0_2 a1_0 l1_1 l1_2 = some r) :
  Calls Try.prog 50 #[.agg #[.int .i64 a0_0, .slice A0_1 l0_1.length c0_1, .slice A0_2 l0_2.length c0_2], .agg #[.int .i64 a1_0, .slice A1_1 l1_1.length c1_1, .slice A1_2 l1_2.length c1_2]] w fun e w' => ∃ v0_ : Value, e = .returned (v0_) ∧ Kd.S (Kd.slice 3 (Kd.int .i64)) 31 w' w.heap.size (fun _ => True) v0_ r ∧ Below w.heap.size w w' := by
 have hu27 := Try.underlying27
 have HR0_1 := Aside0.mk hr0_1
 have HC0_1 := Aside0.mk hc0_1
 clear hr0_1 hc0_1
 have HR0_2 := Aside0.mk hr0_2
 have HC0_2 := Aside0.mk hc0_2
 clear hr0_2 hc0_2
 have HR1_1 := Aside0.mk hr1_1
 have HC1_1 := Aside0.mk hc1_1
 clear hr1_1 hc1_1
 have HR1_2 := Aside0.mk hr1_2
 have HC1_2 := Aside0.mk hc1_2
 clear hr1_2 hc1_2
 have HB := Aside0.mk (Below.refl w.heap.size w)
 have H : ((some (([] : List (List Int)) : List (List Int))).bind fun y456 => ((spec_IsMachine.f k a0_0 l0_1 l0_2).bind fun t459 => (if t459 = true then ((spec_IsMachine.f k a1_0 l1_1 l1_2).bind fun t460 => (spec_FollowPairs.j0 k y456 (!t460) a0_0 l0_1 l0_2 a1_0 l1_1 l1_2)) else (spec_FollowPairs.j0 k y456 true a0_0 l0_1 l0_2 a1_0 l1_1 l1_2)))) = some r := h
 clear h
 obtain ⟨y456, hy456⟩ : ∃ y_ : List (List Int), y_ = (([] : List (List Int))) := ⟨_, rfl⟩
 replace H : ((spec_IsMachine.f k a0_0 l0_1 l0_2).bind fun t459 => (if t459 = true then ((spec_IsMachine.f k a1_0 l1_1 l1_2).bind fun t460 => (spec_FollowPairs.j0 k y456 (!t460) a0_0 l0_1 l0_2 a1_0 l1_1 l1_2)) else (spec_FollowPairs.j0 k y456 true a0_0 l0_1 l0_2 a1_0 l1_1 l1_2))) = some r := by first | (rw [hy456]; with_reducible exact H) | (rw [hy456]; exact H) | exact H
 have Ny456 := Aside0.mk hy456
 clear hy456
 have HC3 := Aside0.mk H
 clear H
 go_enter Try.func50, Try.ntmps50
 go_upto_region 2 with (first | ((with_reducible refine gate_dst (N := 2) rfl ?_); refine box_event ?hg (N := 2) ?hd (cs := #[.int .i64 a0_0, .slice A0_1 l0_1.length c0_1, .slice A0_2 l0_2.length c0_2]) (t := 27) ?hr ?_; (case hd => rfl); (case hg => rfl); (case hr => first | (go_simp; done) | (go_simp; rfl)); intro gb454 hg w4 hbox hb; have BK454 := Aside0.mk (hbox); have GW454 := gS HB hg; have GE454 := gS HB hg; replace HB := bS HB hb; clear hb hbox hg) | ((with_reducible refine gate_dst (N := 3) rfl ?_); refine box_event ?hg (N := 3) ?hd (cs := #[.int .i64 a1_0, .slice A1_1 l1_1.length c1_1, .slice A1_2 l1_2.length c1_2]) (t := 27) ?hr ?_; (case hd => rfl); (case hg => rfl); (case hr => first | (go_simp; done) | (go_simp; rfl)); intro gb455 hg w5 hbox hb; have BK455 := Aside0.mk (hbox); have GW455 := gS HB hg; have GE455 := gS HB hg; replace HB := bS HB hb; have NB454_455 := nL BK454 hg; have NB455_454 := nR BK454 hg; replace BK454 := kB BK454 hb; clear hb hbox hg) | ((with_reducible refine gate_dst (N := 15) rfl ?_); refine Kd.S_lit (Kd.slice 3 (Kd.int .i64)) _ 31 ?hg (N := 15) ?hd (xs := ([] : List (List Int))) (inner := []) (ok := fun _ => True) (okp := fun _ => True) ?hr ?hp (fun _ hk => hk) trivial (Below.refl _ _) (Nat.le_refl _) (by simp) ?_; (case hd => rfl); (case hg => rfl); (case hr => first | (go_simp; done) | (go_simp; rfl)); (case hp => exact (Reps.none _ _)); intro v457 w6 ho7 hb hg_ hnew_; clear hg_ hnew_; (first | rw [← Ny456.out] at ho7 | (simp only [Int.reduceToNat] at ho7; rw [← Ny456.out] at ho7)); have HO458 := Aside0.mk (Kd.S_lower ho7 (below_size (zB HB))); replace BK454 := kB BK454 hb; replace BK455 := kB BK455 hb; replace HB := bS HB hb; clear hb ho7))
 (try simp only [Act.put, List.setIfInBounds_toArray, List.set_cons_zero, List.set_cons_succ])
 go_cut [23] (fun v23 wc => ∃ (kq : Nat) (x23_2 : Bool), v23 = .bool x23_2 ∧ Aside0 (spec_FollowPairs.j0 kq y456 x23_2 a0_0 l0_1 l0_2 a1_0 l1_1 l1_2 = some r) ∧ Aside0 (kq ≤ k) ∧ Aside0 (Kd.S (Kd.slice 3 (Kd.int .i64)) 31 wc w.heap.size (fun _ => True) v457 y456) ∧ Aside0 (wc.heap[gb454]? = some (.cells #[.int .i64 a0_0, (.slice A0_1 l0_1.length c0_1), (.slice A0_2 l0_2.length c0_2)] 27 (0, 0))) ∧ Aside0 (wc.heap[gb455]? = some (.cells #[.int .i64 a1_0, (.slice A1_1 l1_1.length c1_1), (.slice A1_2 l1_2.length c1_2)] 27 (0, 0))) ∧ Aside0 (Below w.heap.size w wc))
 case first =>
  have H := HC3.out
  clear HC3
  obtain ⟨t459, A8, H⟩ := bindS H
  by_cases c9 : t459 = true
  ·subst c9
   have H1 : ((spec_IsMachine.f k a1_0 l1_1 l1_2).bind fun t460 => (spec_FollowPairs.j0 k y456 (!t460) a0_0 l0_1 l0_2 a1_0 l1_1 l1_2)) = some r := by rw [if_pos rfl] at H; exact H
   clear H
   have H := H1
   clear H1
   obtain ⟨t460, A10, H⟩ := bindS H
   have H' := Aside0.mk H
   clear H
   have hnb11 := NB454_455.out
   have hnc11 := NB455_454.out
   obtain ⟨hcz12_0, hcz12_1, hcz12_2, hfz12_0, hfz12_1, hfz12_2⟩ := bq3 BK454
   go_wp2_with (first | ((with_reducible refine gate_callee (f := 11) rfl ?_); refine goesL_ (some 17) rfl rfl Try.func11 (by kernel_rfl) rfl #[.agg #[.int .i64 a0_0, .slice A0_1 l0_1.length c0_1, .slice A0_2 l0_2.length c0_2]] rfl zG ?_; (with_reducible refine (spec_IsMachine.calls k a0_0 _ _ l0_1 _ _ l0_2 true _ ?side1 ?side2 ?side3 ?side4 A8.out).mono ?_); (case side1 => exact cS HR0_1 HB); (case side2 => exact HC0_1.out); (case side3 => exact cS HR0_2 HB); (case side4 => exact HC0_2.out); rintro e w13 ⟨rfl, hb⟩; refine ⟨_, rfl, ?_⟩; replace HO458 := Aside0.mk (Kd.S_below (zS HO458) hb); replace BK454 := kB BK454 hb; replace BK455 := kB BK455 hb; replace HB := bS HB hb; (try clear hb); obtain ⟨hcz14_0, hcz14_1, hcz14_2, hfz14_0, hfz14_1, hfz14_2⟩ := bq3 BK455) | (go_at_call 11; (with_reducible refine (spec_IsMachine.calls k a1_0 _ _ l1_1 _ _ l1_2 t460 _ ?side1 ?side2 ?side3 ?side4 A10.out).mono ?_); (case side1 => exact cS HR1_1 HB); (case side2 => exact HC1_1.out); (case side3 => exact cS HR1_2 HB); (case side4 => exact HC1_2.out); rintro e w15 ⟨rfl, hb⟩; replace HO458 := Aside0.mk (Kd.S_below (zS HO458) hb); replace BK454 := kB BK454 hb; replace BK455 := kB BK455 hb; replace HB := bS HB hb; (try clear hb)))
   go_meet
   case rel => exact ⟨_, (!t460), zF, H', ⟨by first | omega | exact Nat.le_refl _⟩, ⟨zS HO458⟩, ⟨zK BK454⟩, ⟨zK BK455⟩, ⟨zB HB⟩⟩
  ·replace c9 := Bool.eq_false_iff.mpr c9
   subst c9
   have H1 : (spec_FollowPairs.j0 k y456 true a0_0 l0_1 l0_2 a1_0 l1_1 l1_2) = some r := by rw [if_neg (show ¬ (false = true) by decide)] at H; exact H
   clear H
   have H := H1
   clear H1
   have H' := Aside0.mk H
   clear H
   have hnb16 := NB454_455.out
   have hnc16 := NB455_454.out
   obtain ⟨hcz17_0, hcz17_1, hcz17_2, hfz17_0, hfz17_1, hfz17_2⟩ := bq3 BK454
   go_wp2_with (first | ((with_reducible refine gate_callee (f := 11) rfl ?_); refine goesL_ (some 17) rfl rfl Try.func11 (by kernel_rfl) rfl #[.agg #[.int .i64 a0_0, .slice A0_1 l0_1.length c0_1, .slice A0_2 l0_2.length c0_2]] rfl zG ?_; (with_reducible refine (spec_IsMachine.calls k a0_0 _ _ l0_1 _ _ l0_2 false _ ?side1 ?side2 ?side3 ?side4 A8.out).mono ?_); (case side1 => exact cS HR0_1 HB); (case side2 => exact HC0_1.out); (case side3 => exact cS HR0_2 HB); (case side4 => exact HC0_2.out); rintro e w18 ⟨rfl, hb⟩; refine ⟨_, rfl, ?_⟩; replace HO458 := Aside0.mk (Kd.S_below (zS HO458) hb); replace BK454 := kB BK454 hb; replace BK455 := kB BK455 hb; replace HB := bS HB hb; (try clear hb)))
   go_meet
   case rel => exact ⟨_, (true), zF, H', ⟨by first | omega | exact Nat.le_refl _⟩, ⟨zS HO458⟩, ⟨zK BK454⟩, ⟨zK BK455⟩, ⟨zB HB⟩⟩
 case rest =>
  clear HC3
  try clear c1
  try clear p2
  try clear c5
  try clear c9
  try clear c11
  try clear c16
  try clear hcz12_0
  try clear hcz12_1
  try clear hcz12_2
  try clear hcz14_0
  try clear hcz14_1
  try clear hcz14_2
  try clear hcz17_0
  try clear hcz17_1
  try clear hcz17_2
  try clear hfz12_0
  try clear hfz12_1
  try clear hfz12_2
  try clear hfz14_0
  try clear hfz14_1
  try clear hfz14_2
  try clear hfz17_0
  try clear hfz17_1
  try clear hfz17_2
  obtain ⟨kq, x23_2, rfl, HA, HJ2, HO_5, BK454, BK455, HB⟩ := hcut
  cases kq with
  | zero => exact absurd HA.out (by simp [spec_FollowPairs.j0])
  | succ kj2 =>
   have H := HA.out
   clear HA
   simp only [spec_FollowPairs.j0] at H
   by_cases c19 : x23_2 = true
   ·subst c19
    have H1 : (some y456) = some r := by rw [if_pos rfl] at H; exact H
    clear H
    have H := H1
    clear H1
    obtain rfl := Option.some.inj H
    go_wp2
    go_ret
    exact ⟨_, zE, by (with_reducible repeat (first | apply Kd.S_alloc | apply Kd.S_drewN | apply Kd.S_drew)); exact HO_5.out, zB HB⟩
   ·replace c19 := Bool.eq_false_iff.mpr c19
    subst c19
    have H1 : (if y456.length < 5864062014805 then (spec_FollowPairs.l0 kj2 (y456 ++ [(([0, 0] : List Int))]) 0 a0_0 l0_1 l0_2 a1_0 l1_1 l1_2) else (none)) = some r := by rw [if_neg (show ¬ (false = true) by decide)] at H; exact H
    clear H
    have H := H1
    clear H1
    obtain ⟨y461, hy461⟩ : ∃ y_ : List Int, y_ = (([0, 0] : List Int)) := ⟨_, rfl⟩
    replace H : (if y456.length < 5864062014805 then (spec_FollowPairs.l0 kj2 (y456 ++ [y461]) 0 a0_0 l0_1 l0_2 a1_0 l1_1 l1_2) else (none)) = some r := by first | (rw [hy461]; with_reducible exact H) | (rw [hy461]; exact H) | exact H
    have Ny461 := Aside0.mk hy461
    clear hy461
    by_cases c20 : y456.length < 5864062014805
    ·rw [if_pos c20] at H
     have LMc20 := Aside0.mk c20
     clear c20
     obtain ⟨y464, hy464⟩ : ∃ y_ : List (List Int), y_ = (y456 ++ [y461]) := ⟨_, rfl⟩
     replace H : (spec_FollowPairs.l0 kj2 y464 0 a0_0 l0_1 l0_2 a1_0 l1_1 l1_2) = some r := by first | (rw [hy464]; with_reducible exact H) | (rw [hy464]; exact H) | exact H
     have Ny464 := Aside0.mk hy464
     clear hy464
     have H' := Aside0.mk H
     clear H
     go_wp2_with (first | ((with_reducible refine gate_dst (N := 26) rfl ?_); refine Kd.R_lit (Kd.int .i64) _ 3 ?hg (N := 26) ?hd (xs := ([0, 0] : List Int)) (inner := [.int .i64 0, .int .i64 0]) (ok := fun _ => True) (okp := fun _ => True) ?hr ?hp (fun _ hk => hk) trivial (Below.refl _ _) (Nat.le_refl _) (by simp) ?_; (case hd => rfl); (case hg => rfl); (case hr => first | (go_simp; done) | (go_simp; rfl)); (case hp => exact (Reps.one (show Kd.M (Kd.int .i64) _ _ _ 0 [.int .i64 0] from rfl) (Reps.one (show Kd.M (Kd.int .i64) _ _ _ 0 [.int .i64 0] from rfl) (Reps.none _ _)))); intro v462 w21 ho22 hb hg_ hnew_; clear hg_ hnew_; (first | rw [← Ny461.out] at ho22 | (simp only [Int.reduceToNat] at ho22; rw [← Ny461.out] at ho22)); replace HO_5 := Aside0.mk (Kd.S_elder' (zS HO_5) (Kd.R_base ho22) hb); have HO463 := Aside0.mk (Kd.R_lower ho22 (below_size (zB HB))); replace BK454 := kB BK454 hb; replace BK455 := kB BK455 hb; replace HB := bS HB hb; clear hb ho22; obtain ⟨Ao24, co24, eo24⟩ := Kd.R_slice HO463.out; subst eo24) | ((with_reducible refine gate_builtin (b := .append) (xs := #[.tmp 25, .tmp 27]) rfl ?_); at_builtin; refine Kd.S_append (Kd.slice 3 (Kd.int .i64)) (w0 := w) w.heap.size rfl (.tmp 25) (.tmp 27) 33 31 (.slice none 0 0) 24 rfl Try.underlying33 info31 rfl (by decide) (by omega) v457 y456 y461 [.slice Ao24 y461.length co24] (fun _ => True) (fun k_ => some k_ = (.slice Ao24 y461.length co24 : Value).ownBlock) rfl rfl ?aP (fun k_ hk_ => ((Kd.R_mono (ok' := fun k_ => ((fun _ => True)) k_ ∧ some k_ ≠ (v457 : Value).ownBlock) (Kd.R_apart' (HO463.out) (Kd.S_typed HO_5.out) (by decide)) (fun k_ hk => ⟨trivial, hk.2⟩))).1 k_ hk_.symm) ?aF ?aO ?aB ?aS ?aL ?_; (case aP => exact Kd.M_row (Kd.R_mono (Kd.R_tight rfl (Kd.R_mono (ok' := fun k_ => ((fun _ => True)) k_ ∧ some k_ ≠ (v457 : Value).ownBlock) (Kd.R_apart' (HO463.out) (Kd.S_typed HO_5.out) (by decide)) (fun k_ hk => ⟨trivial, hk.2⟩))) (fun _ h_ => h_))); (case aB => exact (zB HB)); (case aF => exact (fun _ _ => trivial)); (case aO => exact (by (with_reducible repeat (first | apply Kd.S_alloc | apply Kd.S_drewN | apply Kd.S_drew)); exact Kd.S_mono HO_5.out (fun k_ hk => ⟨trivial, fun e_ => hk.2 e_⟩))); (case aS => exact (below_size (zB HB))); (case aL => have := LMc20.out; omega); intro v465 w23 ho hb hg hat; rw [← Ny464.out] at ho; replace BK454 := Aside0.mk (blk_grown (g := gb454) (o := .cells #[.int .i64 a0_0, .slice A0_1 l0_1.length c0_1, .slice A0_2 l0_2.length c0_2] 27 (0, 0)) (zK BK454) hg (Kd.S_ne HO_5.out BK454.out (by decide))); replace BK455 := Aside0.mk (blk_grown (g := gb455) (o := .cells #[.int .i64 a1_0, .slice A1_1 l1_1.length c1_1, .slice A1_2 l1_2.length c1_2] 27 (0, 0)) (zK BK455) hg (Kd.S_ne HO_5.out BK455.out (by decide))); replace HB := Aside0.mk (hb); have HO466 := Aside0.mk (ho); clear HO_5 HO463; clear ho hb hg hat))
     go_loopg [5, 6] kj2 (fun kq v5 v6 w' => ∃ (x5_2 : List (List Int)) (x6_2 : Int), v6 = .int .i64 x6_2 ∧ Aside0 (spec_FollowPairs.l0 kq x5_2 x6_2 a0_0 l0_1 l0_2 a1_0 l1_1 l1_2 = some r) ∧ Aside0 (kq ≤ kj2) ∧ Aside0 (Kd.S (Kd.slice 3 (Kd.int .i64)) 31 w' w.heap.size (fun _ => True) v5 x5_2) ∧ Aside0 (w'.heap[gb454]? = some (.cells #[.int .i64 a0_0, (.slice A0_1 l0_1.length c0_1), (.slice A0_2 l0_2.length c0_2)] 27 (0, 0))) ∧ Aside0 (w'.heap[gb455]? = some (.cells #[.int .i64 a1_0, (.slice A1_1 l1_1.length c1_1), (.slice A1_2 l1_2.length c1_2)] 27 (0, 0))) ∧ Aside0 (Below w.heap.size w w'))
     case atStart => exact ⟨(y464), (0), zF, H', ⟨Nat.le_refl _⟩, ⟨zS HO466⟩, ⟨zK BK454⟩, ⟨zK BK455⟩, ⟨zB HB⟩⟩
     case round =>
      clear H'
      try clear c1
      try clear c2
      try clear p2
      try clear c5
      try clear c9
      try clear c11
      try clear c16
      try clear c19
      try clear c20
      try clear hcz12_0
      try clear hcz12_1
      try clear hcz12_2
      try clear hcz14_0
      try clear hcz14_1
      try clear hcz14_2
      try clear hcz17_0
      try clear hcz17_1
      try clear hcz17_2
      try clear hfz12_0
      try clear hfz12_1
      try clear hfz12_2
      try clear hfz14_0
      try clear hfz14_1
      try clear hfz14_2
      try clear hfz17_0
      try clear hfz17_1
      try clear hfz17_2
      try clear p2
      obtain ⟨x5_2, x6_2, rfl, HA, HK2, HO_5, BK454, BK455, HB⟩ := hrel
      cases gk with
      | zero => exact absurd HA.out (by simp [spec_FollowPairs.l0])
      | succ k2 =>
       have H := HA.out
       clear HA
       simp only [spec_FollowPairs.l0] at H
       by_cases c25 : x6_2 < (x5_2.length : Int)
       ·rw [if_pos c25] at H
        have c25b0 : decide (x6_2 < (x5_2.length : Int)) = true := decide_eq_true c25
        clear c25
        obtain ⟨c26, H⟩ := ifS H
        have c26b0 : decide (0 ≤ x6_2) = true := decide_eq_true c26
        clear c26
        obtain ⟨c27, H⟩ := ifS H
        have c27b0 : decide (0 < ((rd_L7 x5_2 x6_2).length : Int)) = true := decide_eq_true c27
        have c27b1 : decide (0 < (rd_L7 x5_2 x6_2).length) = true := decide_eq_true (by omega)
        clear c27
        obtain ⟨c28, H⟩ := ifS H
        have c28b0 : decide (1 < ((rd_L7 x5_2 x6_2).length : Int)) = true := decide_eq_true c28
        have c28b1 : decide (1 < (rd_L7 x5_2 x6_2).length) = true := decide_eq_true (by omega)
        clear c28
        have H' := Aside0.mk H
        clear H
        obtain ⟨Ao29, co29, eo29⟩ := Kd.S_slice HO_5.out
        subst eo29
        have p467 : 0 ≤ (x6_2 : Int) := zD
        have q467 : x6_2 < (x5_2.length : Int) := zD
        obtain ⟨ad467, A467_0, c467_0, e467, hx467_0, hl467_0, hi467_0⟩ := at_L7 (Kd.S_reads' HO_5.out).2.2 x6_2 p467 q467
        cases e467
        obtain ⟨ce467, hce467, hMe467, hcc467⟩ := Kd.S_get HO_5.out [] x6_2 p467 (by first | exact q467 | exact zD | (have e_ := (Kd.S_reads' HO_5.out).1; omega))
        obtain ⟨ve467_0, rfl, ge467_0⟩ := hMe467
        have hv467_0 := hcc467 0 _ rfl
        rw [Nat.add_zero, show ((Kd.slice 3 (Kd.int .i64))).sz = 1 from rfl, Nat.mul_one] at hv467_0
        replace hv467_0 := Option.some.inj (hv467_0.symm.trans hx467_0)
        rw [hv467_0] at ge467_0
        have HL467_0 := Aside0.mk (show Kd.R (Kd.int .i64) 3 _ _ _ _ (rd_L7 x5_2 x6_2) from ge467_0)
        clear hv467_0 ge467_0
        clear hcc467 hce467
        have HR467_0 := Aside0.mk hi467_0
        have HC467_0 := Aside0.mk hl467_0
        clear hi467_0 hl467_0
        replace p467 := eq_true p467
        replace q467 := eq_true q467
        have p468 : 0 ≤ (0 : Int) := (by omega)
        have q468 : 0 < ((rd_L7 x5_2 x6_2).length : Int) := zD
        obtain ⟨ad468, e468, hx468_0⟩ := Kd.at_int (by repeat (first | (with_reducible exact HR467_0.out) | (with_reducible refine Kd.C_alloc ?_ _) | (with_reducible refine Kd.C_drewN ?_ _) | (with_reducible refine Kd.C_drew ?_) | exact HR467_0.out)) 0 p468 q468
        cases e468
        have qi468 : (0 < (rd_L7 x5_2 x6_2).length) = True := eq_true (by omega)
        (try rw [show ((0 : Int)).toNat = 0 from rfl] at hx468_0)
        (try rw [Addr.add_zero'] at hx468_0)
        replace p468 := eq_true p468
        replace q468 := eq_true q468
        have p469 : 0 ≤ (x6_2 : Int) := zD
        have q469 : x6_2 < (x5_2.length : Int) := zD
        obtain ⟨ad469, A469_0, c469_0, e469, hx469_0, hl469_0, hi469_0⟩ := at_L7 (Kd.S_reads' HO_5.out).2.2 x6_2 p469 q469
        obtain rfl : ad467 = ad469 := (by injection e469)
        obtain ⟨ce469, hce469, hMe469, hcc469⟩ := Kd.S_get HO_5.out [] x6_2 p469 (by first | exact q469 | exact zD | (have e_ := (Kd.S_reads' HO_5.out).1; omega))
        obtain ⟨ve469_0, rfl, ge469_0⟩ := hMe469
        have hv469_0 := hcc469 0 _ rfl
        rw [Nat.add_zero, show ((Kd.slice 3 (Kd.int .i64))).sz = 1 from rfl, Nat.mul_one] at hv469_0
        replace hv469_0 := Option.some.inj (hv469_0.symm.trans hx469_0)
        rw [hv469_0] at ge469_0
        have HL469_0 := Aside0.mk (show Kd.R (Kd.int .i64) 3 _ _ _ _ (rd_L7 x5_2 x6_2) from ge469_0)
        clear hv469_0 ge469_0
        clear hcc469 hce469
        have HR469_0 := Aside0.mk hi469_0
        have HC469_0 := Aside0.mk hl469_0
        clear hi469_0 hl469_0
        replace p469 := eq_true p469
        replace q469 := eq_true q469
        have ea_ := Option.some.inj (hx467_0.symm.trans hx469_0)
        injection ea_ with ea_ en_ ec_
        subst ea_
        subst ec_
        clear en_
        have p470 : 0 ≤ (1 : Int) := (by omega)
        have q470 : 1 < ((rd_L7 x5_2 x6_2).length : Int) := zD
        obtain ⟨ad470, e470, hx470_0⟩ := Kd.at_int (by repeat (first | (with_reducible exact HR469_0.out) | (with_reducible refine Kd.C_alloc ?_ _) | (with_reducible refine Kd.C_drewN ?_ _) | (with_reducible refine Kd.C_drew ?_) | exact HR469_0.out)) 1 p470 q470
        cases e470
        (try simp only [show (1 : Int).toNat = 1 from rfl, Nat.reduceMul, Nat.reduceEqDiff, Go.Addr.add, ↓reduceIte] at hx470_0)
        have qi470 : (1 < (rd_L7 x5_2 x6_2).length) = True := eq_true (by omega)
        (try rw [show ((1 : Int)).toNat = 1 from rfl] at hx470_0)
        replace p470 := eq_true p470
        replace q470 := eq_true q470
        go_wp2
        go_loopg [5, 9] k2 (fun kq v5 v9 w' => ∃ (x5_3 : List (List Int)) (x9_3 : Int), v9 = .int .i64 x9_3 ∧ Aside0 (spec_FollowPairs.l1 kq x5_3 x6_2 (rd (rd_L7 x5_2 x6_2) 0) (rd (rd_L7 x5_2 x6_2) 1) x9_3 a0_0 l0_1 l0_2 a1_0 l1_1 l1_2 = some r) ∧ Aside0 (kq ≤ k2) ∧ Aside0 (Kd.S (Kd.slice 3 (Kd.int .i64)) 31 w' w.heap.size (fun _ => True) v5 x5_3) ∧ Aside0 (w'.heap[gb454]? = some (.cells #[.int .i64 a0_0, (.slice A0_1 l0_1.length c0_1), (.slice A0_2 l0_2.length c0_2)] 27 (0, 0))) ∧ Aside0 (w'.heap[gb455]? = some (.cells #[.int .i64 a1_0, (.slice A1_1 l1_1.length c1_1), (.slice A1_2 l1_2.length c1_2)] 27 (0, 0))) ∧ Aside0 (Below w.heap.size w w'))
        case atStart => exact ⟨(x5_2), (1), zF, H', ⟨Nat.le_refl _⟩, ⟨zS HO_5⟩, ⟨zK BK454⟩, ⟨zK BK455⟩, ⟨zB HB⟩⟩
        case round =>
         clear H'
         try clear c1
         try clear c2
         try clear p2
         try clear c4
         try clear p4
         try clear q4
         try clear hx4
         try clear qi4
         try clear c5
         try clear c9
         try clear c11
         try clear c16
         try clear c19
         try clear c20
         try clear c25
         try clear c25b0
         try clear c26
         try clear c26b0
         try clear c27
         try clear c27b0
         try clear c27b1
         try clear c28
         try clear c28b0
         try clear c28b1
         try clear hcz12_0
         try clear hcz12_1
         try clear hcz12_2
         try clear hcz14_0
         try clear hcz14_1
         try clear hcz14_2
         try clear hcz17_0
         try clear hcz17_1
         try clear hcz17_2
         try clear hfz12_0
         try clear hfz12_1
         try clear hfz12_2
         try clear hfz14_0
         try clear hfz14_1
         try clear hfz14_2
         try clear hfz17_0
         try clear hfz17_1
         try clear hfz17_2
         try clear hx467_0
         try clear hx468_0
         try clear hx469_0
         try clear hx470_0
         try clear p2
         try clear p467
         try clear p468
         try clear p469
         try clear p470
         try clear q467
         try clear q468
         try clear q469
         try clear q470
         obtain ⟨x5_3, x9_3, rfl, HA, HK3, HO_5, BK454, BK455, HB⟩ := hrel
         cases gk with
         | zero => exact absurd HA.out (by simp [spec_FollowPairs.l1])
         | succ k3 =>
          have H := HA.out
          clear HA
          simp only [spec_FollowPairs.l1] at H
          by_cases c30 : x9_3 ≥ 0
          ·rw [if_pos c30] at H
           have c30b0 : decide (0 ≤ x9_3) = true := decide_eq_true c30
           clear c30
           obtain ⟨t471, A31, H⟩ := bindS H
           have HC32 := Aside0.mk H
           clear H
           have hnb33 := NB454_455.out
           have hnc33 := NB455_454.out
           obtain ⟨hcz34_0, hcz34_1, hcz34_2, hfz34_0, hfz34_1, hfz34_2⟩ := bq3 BK454
           go_upto_if 55 with (first | ((with_reducible refine gate_callee (f := 25) rfl ?_); refine goesL_ (some 53) rfl rfl Try.func25 (by kernel_rfl) rfl #[.agg #[.int .i64 a0_0, .slice A0_1 l0_1.length c0_1, .slice A0_2 l0_2.length c0_2], .int .i64 (rd (rd_L7 x5_2 x6_2) 0), .bool true] rfl zG ?_; (with_reducible refine (spec_MovesFrom.calls k3 a0_0 _ _ l0_1 _ _ l0_2 (rd (rd_L7 x5_2 x6_2) 0) true t471 _ ?side1 ?side2 ?side3 ?side4 A31.out).mono ?_); (case side1 => exact cS HR0_1 HB); (case side2 => exact HC0_1.out); (case side3 => exact cS HR0_2 HB); (case side4 => exact HC0_2.out); rintro e w35 ⟨v472, rfl, ho0, hb⟩; refine ⟨_, rfl, ?_⟩; replace HO_5 := Aside0.mk (Kd.S_elder' (zS HO_5) (Kd.R_base ho0) hb); have HO473 := Aside0.mk (Kd.R_lower ho0 (below_size (zB HB))); replace BK454 := kB BK454 hb; replace BK455 := kB BK455 hb; replace HB := bS HB hb; (try clear hb); (try clear ho0)))
           (try simp only [Act.put, List.setIfInBounds_toArray, List.set_cons_zero, List.set_cons_succ])
           go_cut [10] (fun v10 wc => ∃ (kq : Nat) (x10_31 : List Int), Aside0 (spec_FollowPairs.j3 kq x5_3 x6_2 (rd (rd_L7 x5_2 x6_2) 0) (rd (rd_L7 x5_2 x6_2) 1) x9_3 x10_31 a0_0 l0_1 l0_2 a1_0 l1_1 l1_2 = some r) ∧ Aside0 (kq ≤ k3) ∧ Aside0 (Kd.S (Kd.slice 3 (Kd.int .i64)) 31 wc w.heap.size (fun k_ => some k_ ≠ (v10 : Value).ownBlock) u5 x5_3) ∧ Aside0 (Kd.R (Kd.int .i64) 3 wc w.heap.size (fun _ => True) v10 x10_31) ∧ Aside0 (wc.heap[gb454]? = some (.cells #[.int .i64 a0_0, (.slice A0_1 l0_1.length c0_1), (.slice A0_2 l0_2.length c0_2)] 27 (0, 0))) ∧ Aside0 (wc.heap[gb455]? = some (.cells #[.int .i64 a1_0, (.slice A1_1 l1_1.length c1_1), (.slice A1_2 l1_2.length c1_2)] 27 (0, 0))) ∧ Aside0 (Below w.heap.size w wc))
           case first =>
            have H := HC32.out
            clear HC32
            by_cases c36 : x9_3 = 0
            ·rw [if_pos c36] at H
             have c36b0 : (x9_3 == 0) = true := beq_iff_eq.mpr c36
             have c36b1 : (x9_3 != 0) = false := bne_eq_false_iff_eq.mpr c36
             clear c36
             (first | rw [c36b0] | (simp only [i64_w, i32_w]; rw [c36b0]) | skip)
             obtain ⟨t474, A37, H⟩ := bindS H
             have H' := Aside0.mk H
             clear H
             have hnb38 := NB455_454.out
             have hnc38 := NB454_455.out
             obtain ⟨hcz39_0, hcz39_1, hcz39_2, hfz39_0, hfz39_1, hfz39_2⟩ := bq3 BK455
             go_wp2_with (first | ((with_reducible refine gate_callee (f := 25) rfl ?_); refine goesL_ (some 58) rfl rfl Try.func25 (by kernel_rfl) rfl #[.agg #[.int .i64 a1_0, .slice A1_1 l1_1.length c1_1, .slice A1_2 l1_2.length c1_2], .int .i64 (rd (rd_L7 x5_2 x6_2) 1), .bool false] rfl zG ?_; (with_reducible refine (spec_MovesFrom.calls k3 a1_0 _ _ l1_1 _ _ l1_2 (rd (rd_L7 x5_2 x6_2) 1) false t474 _ ?side1 ?side2 ?side3 ?side4 A37.out).mono ?_); (case side1 => exact cS HR1_1 HB); (case side2 => exact HC1_1.out); (case side3 => exact cS HR1_2 HB); (case side4 => exact HC1_2.out); rintro e w40 ⟨v475, rfl, ho0, hb⟩; refine ⟨_, rfl, ?_⟩; replace HO_5 := Aside0.mk (Kd.S_elder' (zS HO_5) (Kd.R_base ho0) hb); have HO476 := Aside0.mk (Kd.R_lower (Kd.R_new' ho0 (Kd.R_lt (zR HO473))) (below_size (zB HB))); replace HO473 := Aside0.mk (Kd.R_elder' (zR HO473) (Kd.R_base ho0) hb); replace BK454 := kB BK454 hb; replace BK455 := kB BK455 hb; replace HB := bS HB hb; (try clear hb); (try clear ho0)))
             go_meet
             case rel => exact ⟨_, (t474), H', ⟨by have := HJ2.out; have := HK2.out; have := HK3.out; first | omega | exact Nat.le_refl _⟩, ⟨by (with_reducible repeat (first | apply Kd.S_alloc | apply Kd.S_drewN | apply Kd.S_drew)); exact Kd.S_mono HO_5.out (fun _ hk => hk.2)⟩, ⟨by (with_reducible repeat (first | apply Kd.R_alloc | apply Kd.R_drewN | apply Kd.R_drew)); exact Kd.R_mono HO476.out (fun _ hk => trivial)⟩, ⟨zK BK454⟩, ⟨zK BK455⟩, ⟨zB HB⟩⟩
            ·rw [if_neg c36] at H
             have c36b0 : (x9_3 == 0) = false := beq_eq_false_iff_ne.mpr c36
             have c36b1 : (x9_3 != 0) = true := bne_iff_ne.mpr c36
             (first | rw [c36b0] | (simp only [i64_w, i32_w]; rw [c36b0]) | skip)
             have H' := Aside0.mk H
             clear H
             go_wp2
             go_meet
             case rel => exact ⟨_, (t471), H', ⟨by have := HJ2.out; have := HK2.out; have := HK3.out; first | omega | exact Nat.le_refl _⟩, ⟨by (with_reducible repeat (first | apply Kd.S_alloc | apply Kd.S_drewN | apply Kd.S_drew)); exact Kd.S_mono HO_5.out (fun _ hk => hk.2)⟩, ⟨zR HO473⟩, ⟨zK BK454⟩, ⟨zK BK455⟩, ⟨zB HB⟩⟩
           case rest =>
            clear HC32
            try clear c1
            try clear c2
            try clear p2
            try clear c3
            try clear c4
            try clear p4
            try clear q4
            try clear hx4
            try clear qi4
            try clear c5
            try clear c9
            try clear c11
            try clear c16
            try clear c19
            try clear c20
            try clear c25
            try clear c25b0
            try clear c26
            try clear c26b0
            try clear c27
            try clear c27b0
            try clear c27b1
            try clear c28
            try clear c28b0
            try clear c28b1
            try clear c30
            try clear c30b0
            try clear c33
            try clear c36
            try clear c36b0
            try clear c36b1
            try clear c38
            try clear hcz12_0
            try clear hcz12_1
            try clear hcz12_2
            try clear hcz14_0
            try clear hcz14_1
            try clear hcz14_2
            try clear hcz17_0
            try clear hcz17_1
            try clear hcz17_2
            try clear hcz34_0
            try clear hcz34_1
            try clear hcz34_2
            try clear hcz39_0
            try clear hcz39_1
            try clear hcz39_2
            try clear hfz12_0
            try clear hfz12_1
            try clear hfz12_2
            try clear hfz14_0
            try clear hfz14_1
            try clear hfz14_2
            try clear hfz17_0
            try clear hfz17_1
            try clear hfz17_2
            try clear hfz34_0
            try clear hfz34_1
            try clear hfz34_2
            try clear hfz39_0
            try clear hfz39_1
            try clear hfz39_2
            try clear hx467_0
            try clear hx468_0
            try clear hx469_0
            try clear hx470_0
            try clear p2
            try clear p4
            try clear p467
            try clear p468
            try clear p469
            try clear p470
            try clear q4
            try clear q467
            try clear q468
            try clear q469
            try clear q470
            obtain ⟨kq, x10_31, HA, HJ31, HO_5, HO_10, BK454, BK455, HB⟩ := hcut
            cases kq with
            | zero => exact absurd HA.out (by simp [spec_FollowPairs.j3])
            | succ kj31 =>
             have H := HA.out
             clear HA
             simp only [spec_FollowPairs.j3] at H
             have H' := Aside0.mk H
             clear H
             go_wp2
             go_loopg [5, 11] kj31 (fun kq v5 v11 w' => ∃ (x5_5 : List (List Int)) (x11_5 : Int), v11 = .int .i64 x11_5 ∧ Aside0 (spec_FollowPairs.l2 kq x5_5 x6_2 (rd (rd_L7 x5_2 x6_2) 0) (rd (rd_L7 x5_2 x6_2) 1) x9_3 x10_31 x11_5 a0_0 l0_1 l0_2 a1_0 l1_1 l1_2 = some r) ∧ Aside0 (kq ≤ kj31) ∧ Aside0 (Kd.S (Kd.slice 3 (Kd.int .i64)) 31 w' w.heap.size (fun k_ => some k_ ≠ (u10 : Value).ownBlock) v5 x5_5) ∧ Aside0 (Kd.R (Kd.int .i64) 3 w' w.heap.size (fun _ => True) u10 x10_31) ∧ Aside0 (w'.heap[gb454]? = some (.cells #[.int .i64 a0_0, (.slice A0_1 l0_1.length c0_1), (.slice A0_2 l0_2.length c0_2)] 27 (0, 0))) ∧ Aside0 (w'.heap[gb455]? = some (.cells #[.int .i64 a1_0, (.slice A1_1 l1_1.length c1_1), (.slice A1_2 l1_2.length c1_2)] 27 (0, 0))) ∧ Aside0 (Below w.heap.size w w'))
             case atStart => exact ⟨(x5_3), (0), zF, H', ⟨Nat.le_refl _⟩, ⟨zS HO_5⟩, ⟨zR HO_10⟩, ⟨zK BK454⟩, ⟨zK BK455⟩, ⟨zB HB⟩⟩
             case round =>
              clear H'
              try clear c1
              try clear c2
              try clear p2
              try clear c3
              try clear c4
              try clear p4
              try clear q4
              try clear hx4
              try clear qi4
              try clear c5
              try clear c9
              try clear c11
              try clear c16
              try clear c19
              try clear c20
              try clear c25
              try clear c25b0
              try clear c26
              try clear c26b0
              try clear c27
              try clear c27b0
              try clear c27b1
              try clear c28
              try clear c28b0
              try clear c28b1
              try clear c30
              try clear c30b0
              try clear c33
              try clear c36
              try clear c36b0
              try clear c36b1
              try clear c38
              try clear hcz12_0
              try clear hcz12_1
              try clear hcz12_2
              try clear hcz14_0
              try clear hcz14_1
              try clear hcz14_2
              try clear hcz17_0
              try clear hcz17_1
              try clear hcz17_2
              try clear hcz34_0
              try clear hcz34_1
              try clear hcz34_2
              try clear hcz39_0
              try clear hcz39_1
              try clear hcz39_2
              try clear hfz12_0
              try clear hfz12_1
              try clear hfz12_2
              try clear hfz14_0
              try clear hfz14_1
              try clear hfz14_2
              try clear hfz17_0
              try clear hfz17_1
              try clear hfz17_2
              try clear hfz34_0
              try clear hfz34_1
              try clear hfz34_2
              try clear hfz39_0
              try clear hfz39_1
              try clear hfz39_2
              try clear hx467_0
              try clear hx468_0
              try clear hx469_0
              try clear hx470_0
              try clear p2
              try clear p4
              try clear p467
              try clear p468
              try clear p469
              try clear p470
              try clear q4
              try clear q467
              try clear q468
              try clear q469
              try clear q470
              obtain ⟨x5_5, x11_5, rfl, HA, HK5, HO_5, HO_10, BK454, BK455, HB⟩ := hrel
              cases gk with
              | zero => exact absurd HA.out (by simp [spec_FollowPairs.l2])
              | succ k5 =>
               have H := HA.out
               clear HA
               simp only [spec_FollowPairs.l2] at H
               by_cases c41 : x11_5 < (x10_31.length : Int)
               ·rw [if_pos c41] at H
                have c41b0 : decide (x11_5 < (x10_31.length : Int)) = true := decide_eq_true c41
                clear c41
                obtain ⟨c42, H⟩ := ifS H
                have c42b0 : decide (0 ≤ x11_5) = true := decide_eq_true c42
                clear c42
                obtain ⟨t478, A43, H⟩ := bindS H
                obtain ⟨t480, A44, H⟩ := bindS H
                have HC45 := Aside0.mk H
                clear H
                obtain ⟨Ao46, co46, eo46⟩ := Kd.R_slice HO_10.out
                subst eo46
                try go_wp2
                replace HO_5 := Aside0.mk (Kd.S_drew HO_5.out)
                replace HO_10 := Aside0.mk (Kd.R_drew HO_10.out)
                replace BK454 := Aside0.mk (blk_drew BK454.out)
                replace BK455 := Aside0.mk (blk_drew BK455.out)
                replace HB := Aside0.mk (below_drew1 HB.out)
                have p477 : 0 ≤ (x11_5 : Int) := zD
                have q477 : x11_5 < (x10_31.length : Int) := zD
                obtain ⟨ad477, e477, hx477_0⟩ := Kd.at_int (Kd.R_reads' HO_10.out).2.2 x11_5 p477 q477
                cases e477
                replace p477 := eq_true p477
                replace q477 := eq_true q477
                refine start_ (n := 10) (S := fun w' => w'.cell? ⟨gb454, 0, none⟩ = some (.int .i64 a0_0) ∧ w'.cell? ⟨gb454, 1, none⟩ = some (.slice A0_1 l0_1.length c0_1) ∧ w'.cell? ⟨gb454, 2, none⟩ = some (.slice A0_2 l0_2.length c0_2) ∧ w'.cell? (ad477.add (x11_5).toNat) = some (.int .i64 (rd x10_31 x11_5))) (ds := []) (bm 10 0) (by kernel_rfl) rfl (bm0 _) ⟨bc0 BK454, bc1 BK454, bc2 BK454, hx477_0⟩ (fun hHeld => ?_); refine with_tabW spec_FollowPairs.tab19 spec_FollowPairs.bits19 (fun HT_ HW_ => ?_)
                generalize wr.drew = w47 at HO_5 HO_10 BK454 BK455 HB hx477_0 hHeld ⊢
                refine pU 1 (some 66) (bm 10 2) HT_ rfl rfl ?_
                refine pU 2 (some 67) (bm 10 6) HT_ rfl rfl ?_
                refine pU 3 (some 68) (bm 10 14) HT_ rfl rfl ?_
                refine pU 4 (some 69) (bm 10 30) HT_ rfl rfl ?_
                refine pU 5 (some 70) (bm 10 62) HT_ rfl rfl ?_
                refine pU 6 (some 71) (bm 10 126) HT_ rfl rfl ?_
                refine tU 0 (some 65) (bm 10 127) HT_ HW_ rfl rfl hHeld ?_
                refine tU 7 (some 72) (bm 10 255) HT_ HW_ rfl rfl hHeld ?_
                refine one_ (i := 8) (N := some 73) (bm 10 511) rfl rfl (one_of HT_.out (by kernel_rfl)) (by decide) (fun K hK => ?_)
                refine goes_ Try.func24 (by kernel_rfl) rfl #[.agg #[.int .i64 a0_0, .slice A0_1 l0_1.length c0_1, .slice A0_2 l0_2.length c0_2], .int .i64 (rd (rd_L7 x5_2 x6_2) 0), .bool (x9_3 == 1), .int .i64 (rd x10_31 x11_5)] (by rfl) rfl rfl zG ?_
                with_reducible refine (spec_MoveOf.calls k5 a0_0 _ _ l0_1 _ _ l0_2 (rd (rd_L7 x5_2 x6_2) 0) (x9_3 == 1) (rd x10_31 x11_5) t478 _ ?side1 ?side2 ?side3 ?side4 A43.out).mono ?_
                (case side1 => exact cS HR0_1 HB)
                (case side2 => exact HC0_1.out)
                (case side3 => exact cS HR0_2 HB)
                (case side4 => exact HC0_2.out)
                rintro e w48 ⟨rfl, hb⟩
                have HS3_ := (hb.cell (World.block_lt_of_cell? _ _ (hHeld.2.2.2))).trans (hHeld.2.2.2)
                refine ⟨_, rfl, ?_⟩
                replace HO_5 := Aside0.mk (Kd.S_below (zS HO_5) hb)
                replace HO_10 := Aside0.mk (Kd.R_below (zR HO_10) hb)
                replace BK454 := kB BK454 hb
                replace BK455 := kB BK455 hb
                replace HB := bS HB hb
                (try clear hb); (try clear hb2); (try clear hk); (try clear hi)
                refine hK.out _ _ ⟨bc0 BK454, bc1 BK454, bc2 BK454, HS3_⟩ (fun hHeld => ?_)
                clear hK K
                refine nU 73 ?_
                refine pU 9 (some 12) (bm 10 1023) HT_ rfl rfl ?_
                refine done_ (done_of HT_.out (by kernel_rfl)) ?_
                try clear hHeld
                try go_wp2
                replace HO_5 := Aside0.mk (Kd.S_drew HO_5.out)
                replace HO_10 := Aside0.mk (Kd.R_drew HO_10.out)
                replace BK454 := Aside0.mk (blk_drew BK454.out)
                replace BK455 := Aside0.mk (blk_drew BK455.out)
                replace HB := Aside0.mk (below_drew1 HB.out)
                have p479 : 0 ≤ (x11_5 : Int) := zD
                have q479 : x11_5 < (x10_31.length : Int) := zD
                obtain ⟨ad479, e479, hx479_0⟩ := Kd.at_int (Kd.R_reads' HO_10.out).2.2 x11_5 p479 q479
                obtain rfl : ad477 = ad479 := (by injection e479)
                replace p479 := eq_true p479
                replace q479 := eq_true q479
                refine start_ (n := 10) (S := fun w' => w'.cell? ⟨gb455, 0, none⟩ = some (.int .i64 a1_0) ∧ w'.cell? ⟨gb455, 1, none⟩ = some (.slice A1_1 l1_1.length c1_1) ∧ w'.cell? ⟨gb455, 2, none⟩ = some (.slice A1_2 l1_2.length c1_2) ∧ w'.cell? (ad477.add (x11_5).toNat) = some (.int .i64 (rd x10_31 x11_5))) (ds := []) (bm 10 0) (by kernel_rfl) rfl (bm0 _) ⟨bc0 BK455, bc1 BK455, bc2 BK455, hx479_0⟩ (fun hHeld => ?_); refine with_tabW spec_FollowPairs.tab20 spec_FollowPairs.bits20 (fun HT_ HW_ => ?_)
                generalize w48.drew = w49 at HO_5 HO_10 BK454 BK455 HB hx479_0 hHeld ⊢
                refine pU 1 (some 75) (bm 10 2) HT_ rfl rfl ?_
                refine pU 2 (some 76) (bm 10 6) HT_ rfl rfl ?_
                refine pU 3 (some 77) (bm 10 14) HT_ rfl rfl ?_
                refine pU 4 (some 78) (bm 10 30) HT_ rfl rfl ?_
                refine pU 5 (some 79) (bm 10 62) HT_ rfl rfl ?_
                refine pU 6 (some 80) (bm 10 126) HT_ rfl rfl ?_
                refine tU 0 (some 74) (bm 10 127) HT_ HW_ rfl rfl hHeld ?_
                refine tU 7 (some 81) (bm 10 255) HT_ HW_ rfl rfl hHeld ?_
                refine one_ (i := 8) (N := some 82) (bm 10 511) rfl rfl (one_of HT_.out (by kernel_rfl)) (by decide) (fun K hK => ?_)
                refine goes_ Try.func24 (by kernel_rfl) rfl #[.agg #[.int .i64 a1_0, .slice A1_1 l1_1.length c1_1, .slice A1_2 l1_2.length c1_2], .int .i64 (rd (rd_L7 x5_2 x6_2) 1), .bool (x9_3 == 1), .int .i64 (rd x10_31 x11_5)] (by rfl) rfl rfl zG ?_
                with_reducible refine (spec_MoveOf.calls k5 a1_0 _ _ l1_1 _ _ l1_2 (rd (rd_L7 x5_2 x6_2) 1) (x9_3 == 1) (rd x10_31 x11_5) t480 _ ?side1 ?side2 ?side3 ?side4 A44.out).mono ?_
                (case side1 => exact cS HR1_1 HB)
                (case side2 => exact HC1_1.out)
                (case side3 => exact cS HR1_2 HB)
                (case side4 => exact HC1_2.out)
                rintro e w50 ⟨rfl, hb⟩
                have HS3_ := (hb.cell (World.block_lt_of_cell? _ _ (hHeld.2.2.2))).trans (hHeld.2.2.2)
                refine ⟨_, rfl, ?_⟩
                replace HO_5 := Aside0.mk (Kd.S_below (zS HO_5) hb)
                replace HO_10 := Aside0.mk (Kd.R_below (zR HO_10) hb)
                replace BK454 := kB BK454 hb
                replace BK455 := kB BK455 hb
                replace HB := bS HB hb
                (try clear hb); (try clear hb2); (try clear hk); (try clear hi)
                refine hK.out _ _ ⟨bc0 BK455, bc1 BK455, bc2 BK455, HS3_⟩ (fun hHeld => ?_)
                clear hK K
                refine nU 82 ?_
                refine pU 9 (some 13) (bm 10 1023) HT_ rfl rfl ?_
                refine done_ (done_of HT_.out (by kernel_rfl)) ?_
                try clear hHeld
                go_upto_region 21 with (fail)
                go_cut [88] (fun v88 wc => ∃ (kq : Nat) (x88_44 : Bool), v88 = .bool x88_44 ∧ Aside0 (spec_FollowPairs.j5 kq x5_5 x6_2 (rd (rd_L7 x5_2 x6_2) 0) (rd (rd_L7 x5_2 x6_2) 1) x9_3 x10_31 x11_5 t478 t480 x88_44 a0_0 l0_1 l0_2 a1_0 l1_1 l1_2 = some r) ∧ Aside0 (kq ≤ k5) ∧ Aside0 (Kd.S (Kd.slice 3 (Kd.int .i64)) 31 wc w.heap.size (fun k_ => some k_ ≠ ((.slice (some ad477) x10_31.length co46) : Value).ownBlock) u5 x5_5) ∧ Aside0 (Kd.R (Kd.int .i64) 3 wc w.heap.size (fun _ => True) (.slice (some ad477) x10_31.length co46) x10_31) ∧ Aside0 (wc.heap[gb454]? = some (.cells #[.int .i64 a0_0, (.slice A0_1 l0_1.length c0_1), (.slice A0_2 l0_2.length c0_2)] 27 (0, 0))) ∧ Aside0 (wc.heap[gb455]? = some (.cells #[.int .i64 a1_0, (.slice A1_1 l1_1.length c1_1), (.slice A1_2 l1_2.length c1_2)] 27 (0, 0))) ∧ Aside0 (Below w.heap.size w wc))
                case first =>
                 have H := HC45.out
                 clear HC45
                 by_cases c51 : t478 < 0
                 ·rw [if_pos c51] at H
                  have c51b0 : decide (t478 < 0) = true := decide_eq_true c51
                  clear c51
                  (first | rw [c51b0] | (simp only [i64_w, i32_w]; rw [c51b0]) | skip)
                  have H' := Aside0.mk H
                  clear H
                  go_wp2
                  go_meet
                  case rel => exact ⟨_, (true), zF, H', ⟨by have := HJ2.out; have := HK2.out; have := HK3.out; have := HJ31.out; have := HK5.out; first | omega | exact Nat.le_refl _⟩, ⟨zS HO_5⟩, ⟨zR HO_10⟩, ⟨zK BK454⟩, ⟨zK BK455⟩, ⟨zB HB⟩⟩
                 ·rw [if_neg c51] at H
                  have c51b0 : decide (t478 < 0) = false := decide_eq_false c51
                  clear c51
                  (first | rw [c51b0] | (simp only [i64_w, i32_w]; rw [c51b0]) | skip)
                  have H' := Aside0.mk H
                  clear H
                  go_wp2
                  go_meet
                  case rel => exact ⟨_, (decide (t480 < 0)), zF, H', ⟨by have := HJ2.out; have := HK2.out; have := HK3.out; have := HJ31.out; have := HK5.out; first | omega | exact Nat.le_refl _⟩, ⟨zS HO_5⟩, ⟨zR HO_10⟩, ⟨zK BK454⟩, ⟨zK BK455⟩, ⟨zB HB⟩⟩
                case rest =>
                 clear HC45
                 try clear c1
                 try clear c2
                 try clear p2
                 try clear c3
                 try clear c4
                 try clear p4
                 try clear q4
                 try clear hx4
                 try clear qi4
                 try clear c5
                 try clear c9
                 try clear c11
                 try clear c16
                 try clear c19
                 try clear c20
                 try clear c24
                 try clear c25
                 try clear c25b0
                 try clear c26
                 try clear c26b0
                 try clear c27
                 try clear c27b0
                 try clear c27b1
                 try clear c28
                 try clear c28b0
                 try clear c28b1
                 try clear c30
                 try clear c30b0
                 try clear c33
                 try clear c36
                 try clear c36b0
                 try clear c36b1
                 try clear c38
                 try clear c41
                 try clear c41b0
                 try clear c42
                 try clear c42b0
                 try clear p46
                 try clear q46
                 try clear hx46
                 try clear p47
                 try clear q47
                 try clear hx47
                 try clear c51
                 try clear c51b0
                 try clear hcz12_0
                 try clear hcz12_1
                 try clear hcz12_2
                 try clear hcz14_0
                 try clear hcz14_1
                 try clear hcz14_2
                 try clear hcz17_0
                 try clear hcz17_1
                 try clear hcz17_2
                 try clear hcz34_0
                 try clear hcz34_1
                 try clear hcz34_2
                 try clear hcz39_0
                 try clear hcz39_1
                 try clear hcz39_2
                 try clear hfz12_0
                 try clear hfz12_1
                 try clear hfz12_2
                 try clear hfz14_0
                 try clear hfz14_1
                 try clear hfz14_2
                 try clear hfz17_0
                 try clear hfz17_1
                 try clear hfz17_2
                 try clear hfz34_0
                 try clear hfz34_1
                 try clear hfz34_2
                 try clear hfz39_0
                 try clear hfz39_1
                 try clear hfz39_2
                 try clear hx467_0
                 try clear hx468_0
                 try clear hx469_0
                 try clear hx470_0
                 try clear hx477_0
                 try clear hx479_0
                 try clear p2
                 try clear p4
                 try clear p467
                 try clear p468
                 try clear p469
                 try clear p470
                 try clear p477
                 try clear p479
                 try clear q4
                 try clear q467
                 try clear q468
                 try clear q469
                 try clear q470
                 try clear q477
                 try clear q479
                 obtain ⟨kq, x88_44, rfl, HA, HJ44, HO_5, HO_10, BK454, BK455, HB⟩ := hcut
                 cases kq with
                 | zero => exact absurd HA.out (by simp [spec_FollowPairs.j5])
                 | succ kj44 =>
                  have H := HA.out
                  clear HA
                  simp only [spec_FollowPairs.j5] at H
                  by_cases c52 : x88_44 = true
                  ·subst c52
                   have H1 : (spec_FollowPairs.l2 kj44 x5_5 x6_2 (rd (rd_L7 x5_2 x6_2) 0) (rd (rd_L7 x5_2 x6_2) 1) x9_3 x10_31 (wrap64 (x11_5 + 1)) a0_0 l0_1 l0_2 a1_0 l1_1 l1_2) = some r := by rw [if_pos rfl] at H; exact H
                   clear H
                   have H := H1
                   clear H1
                   have H' := Aside0.mk H
                   clear H
                   go_wp2
                   go_roundg kj44
                   case measure => have := HJ2.out; have := HK2.out; have := HK3.out; have := HJ31.out; have := HK5.out; have := HJ44.out; omega
                   case rel => exact ⟨(x5_5), (wrap64 (x11_5 + 1)), zF, H', ⟨by have := HJ2.out; have := HK2.out; have := HK3.out; have := HJ31.out; have := HK5.out; have := HJ44.out; omega⟩, ⟨zS HO_5⟩, ⟨zR HO_10⟩, ⟨zK BK454⟩, ⟨zK BK455⟩, ⟨zB HB⟩⟩
                  ·replace c52 := Bool.eq_false_iff.mpr c52
                   subst c52
                   have H1 : (if 0 ≤ t478 then (if t478 < (l0_2.length : Int) then (if 0 ≤ t480 then (if t480 < (l1_2.length : Int) then ((some (([(rd_T46 l0_2 t478).f3, (rd_T46 l1_2 t480).f3] : List Int) : List Int)).bind fun y483 => ((spec_l14Has.f kj44 x5_5 y483).bind fun t486 => (if t486 = true then (spec_FollowPairs.l2 kj44 x5_5 x6_2 (rd (rd_L7 x5_2 x6_2) 0) (rd (rd_L7 x5_2 x6_2) 1) x9_3 x10_31 (wrap64 (x11_5 + 1)) a0_0 l0_1 l0_2 a1_0 l1_1 l1_2) else (if x5_5.length < 5864062014805 then (spec_FollowPairs.l2 kj44 (x5_5 ++ [y483]) x6_2 (rd (rd_L7 x5_2 x6_2) 0) (rd (rd_L7 x5_2 x6_2) 1) x9_3 x10_31 (wrap64 (x11_5 + 1)) a0_0 l0_1 l0_2 a1_0 l1_1 l1_2) else (none))))) else (none)) else (none)) else (none)) else (none)) = some r := by rw [if_neg (show ¬ (false = true) by decide)] at H; exact H
                   clear H
                   have H := H1
                   clear H1
                   obtain ⟨c53, H⟩ := ifS H
                   have c53b0 : decide (0 ≤ t478) = true := decide_eq_true c53
                   clear c53
                   obtain ⟨c54, H⟩ := ifS H
                   have c54b0 : decide (t478 < (l0_2.length : Int)) = true := decide_eq_true c54
                   clear c54
                   obtain ⟨c55, H⟩ := ifS H
                   have c55b0 : decide (0 ≤ t480) = true := decide_eq_true c55
                   clear c55
                   obtain ⟨c56, H⟩ := ifS H
                   have c56b0 : decide (t480 < (l1_2.length : Int)) = true := decide_eq_true c56
                   clear c56
                   obtain ⟨y483, hy483⟩ : ∃ y_ : List Int, y_ = (([(rd_T46 l0_2 t478).f3, (rd_T46 l1_2 t480).f3] : List Int)) := ⟨_, rfl⟩
                   replace H : ((spec_l14Has.f kj44 x5_5 y483).bind fun t486 => (if t486 = true then (spec_FollowPairs.l2 kj44 x5_5 x6_2 (rd (rd_L7 x5_2 x6_2) 0) (rd (rd_L7 x5_2 x6_2) 1) x9_3 x10_31 (wrap64 (x11_5 + 1)) a0_0 l0_1 l0_2 a1_0 l1_1 l1_2) else (if x5_5.length < 5864062014805 then (spec_FollowPairs.l2 kj44 (x5_5 ++ [y483]) x6_2 (rd (rd_L7 x5_2 x6_2) 0) (rd (rd_L7 x5_2 x6_2) 1) x9_3 x10_31 (wrap64 (x11_5 + 1)) a0_0 l0_1 l0_2 a1_0 l1_1 l1_2) else (none)))) = some r := by first | (rw [hy483]; with_reducible exact H) | (rw [hy483]; exact H) | exact H
                   have Ny483 := Aside0.mk hy483
                   clear hy483
                   obtain ⟨t486, A57, H⟩ := bindS H
                   by_cases c58 : t486 = true
                   ·subst c58
                    have H1 : (spec_FollowPairs.l2 kj44 x5_5 x6_2 (rd (rd_L7 x5_2 x6_2) 0) (rd (rd_L7 x5_2 x6_2) 1) x9_3 x10_31 (wrap64 (x11_5 + 1)) a0_0 l0_1 l0_2 a1_0 l1_1 l1_2) = some r := by rw [if_pos rfl] at H; exact H
                    clear H
                    have H := H1
                    clear H1
                    have H' := Aside0.mk H
                    clear H
                    try go_wp2
                    replace HO_5 := Aside0.mk (Kd.S_drew HO_5.out)
                    replace HO_10 := Aside0.mk (Kd.R_drew HO_10.out)
                    replace BK454 := Aside0.mk (blk_drew BK454.out)
                    replace BK455 := Aside0.mk (blk_drew BK455.out)
                    replace HB := Aside0.mk (below_drew1 HB.out)
                    have p481 : 0 ≤ (t478 : Int) := zD
                    have q481 : t478 < (l0_2.length : Int) := zD
                    obtain ⟨ad481, e481, hx481_0, hx481_1, hx481_2, hx481_3⟩ := at_T46 HR0_2.out t478 p481 q481
                    have hw481_3 := hx481_3
                    have hw481_2 := hx481_2
                    have hw481_1 := hx481_1
                    have hw481_0 := hx481_0
                    cases e481
                    replace hx481_0 := hL HB hx481_0
                    replace hx481_1 := hL HB hx481_1
                    replace hx481_2 := hL HB hx481_2
                    replace hx481_3 := hL HB hx481_3
                    replace p481 := eq_true p481
                    replace q481 := eq_true q481
                    have p482 : 0 ≤ (t480 : Int) := zD
                    have q482 : t480 < (l1_2.length : Int) := zD
                    obtain ⟨ad482, e482, hx482_0, hx482_1, hx482_2, hx482_3⟩ := at_T46 HR1_2.out t480 p482 q482
                    have hw482_3 := hx482_3
                    have hw482_2 := hx482_2
                    have hw482_1 := hx482_1
                    have hw482_0 := hx482_0
                    cases e482
                    replace hx482_0 := hL HB hx482_0
                    replace hx482_1 := hL HB hx482_1
                    replace hx482_2 := hL HB hx482_2
                    replace hx482_3 := hL HB hx482_3
                    replace p482 := eq_true p482
                    replace q482 := eq_true q482
                    refine start_ (n := 14) (S := fun w' => w'.cell? ⟨gb454, 0, none⟩ = some (.int .i64 a0_0) ∧ w'.cell? ⟨gb454, 1, none⟩ = some (.slice A0_1 l0_1.length c0_1) ∧ w'.cell? ⟨gb454, 2, none⟩ = some (.slice (some ad481) l0_2.length c0_2) ∧ w'.cell? ⟨gb455, 0, none⟩ = some (.int .i64 a1_0) ∧ w'.cell? ⟨gb455, 1, none⟩ = some (.slice A1_1 l1_1.length c1_1) ∧ w'.cell? ⟨gb455, 2, none⟩ = some (.slice (some ad482) l1_2.length c1_2) ∧ w'.cell? (ad481.add ((t478).toNat * 4)) = some (.int .i64 ((rd_T46 l0_2 t478).f0)) ∧ w'.cell? ⟨(ad481.add ((t478).toNat * 4)).block, (ad481.add ((t478).toNat * 4)).off + 1, none⟩ = some (.bool ((rd_T46 l0_2 t478).f1)) ∧ w'.cell? ⟨(ad481.add ((t478).toNat * 4)).block, (ad481.add ((t478).toNat * 4)).off + 2, none⟩ = some (.int .i64 ((rd_T46 l0_2 t478).f2)) ∧ w'.cell? ⟨(ad481.add ((t478).toNat * 4)).block, (ad481.add ((t478).toNat * 4)).off + 3, none⟩ = some (.int .i64 ((rd_T46 l0_2 t478).f3)) ∧ w'.cell? (ad482.add ((t480).toNat * 4)) = some (.int .i64 ((rd_T46 l1_2 t480).f0)) ∧ w'.cell? ⟨(ad482.add ((t480).toNat * 4)).block, (ad482.add ((t480).toNat * 4)).off + 1, none⟩ = some (.bool ((rd_T46 l1_2 t480).f1)) ∧ w'.cell? ⟨(ad482.add ((t480).toNat * 4)).block, (ad482.add ((t480).toNat * 4)).off + 2, none⟩ = some (.int .i64 ((rd_T46 l1_2 t480).f2)) ∧ w'.cell? ⟨(ad482.add ((t480).toNat * 4)).block, (ad482.add ((t480).toNat * 4)).off + 3, none⟩ = some (.int .i64 ((rd_T46 l1_2 t480).f3))) (ds := []) (bm 14 0) (by kernel_rfl) rfl (bm0 _) ⟨bc0 BK454, bc1 BK454, bc2 BK454, bc0 BK455, bc1 BK455, bc2 BK455, (hL HB hw481_0), (hL HB hw481_1), (hL HB hw481_2), (hL HB hw481_3), (hL HB hw482_0), (hL HB hw482_1), (hL HB hw482_2), (hL HB hw482_3)⟩ (fun hHeld => ?_); refine with_tabW spec_FollowPairs.tab22 spec_FollowPairs.bits22 (fun HT_ HW_ => ?_)
                    generalize wc.drew = w59 at HO_5 HO_10 BK454 BK455 HB hx481_0 hx481_1 hx481_2 hx481_3 hx482_0 hx482_1 hx482_2 hx482_3 hHeld ⊢
                    refine pU 0 (some 89) (bm 14 1) HT_ rfl rfl ?_
                    refine pU 2 (some 91) (bm 14 5) HT_ rfl rfl ?_
                    refine pU 6 (some 95) (bm 14 69) HT_ rfl rfl ?_
                    refine pU 8 (some 97) (bm 14 325) HT_ rfl rfl ?_
                    refine tU 1 (some 90) (bm 14 327) HT_ HW_ rfl rfl hHeld ?_
                    refine pU 3 (some 92) (bm 14 335) HT_ rfl rfl ?_
                    refine pU 4 (some 93) (bm 14 351) HT_ rfl rfl ?_
                    refine tU 5 (some 94) (bm 14 383) HT_ HW_ rfl rfl hHeld ?_
                    refine tU 7 (some 96) (bm 14 511) HT_ HW_ rfl rfl hHeld ?_
                    refine pU 9 (some 98) (bm 14 1023) HT_ rfl rfl ?_
                    refine pU 10 (some 99) (bm 14 2047) HT_ rfl rfl ?_
                    refine tU 11 (some 100) (bm 14 4095) HT_ HW_ rfl rfl hHeld ?_
                    refine one_ (i := 12) (N := some 101) (bm 14 8191) rfl rfl (one_of HT_.out (by kernel_rfl)) (by decide) (fun K hK => ?_)
                    refine Kd.R_lit_step (Kd.int .i64) _ 3 ?hg (N := 101) ?hd (xs := ([(rd_T46 l0_2 t478).f3, (rd_T46 l1_2 t480).f3] : List Int)) (inner := [.int .i64 ((rd_T46 l0_2 t478).f3), .int .i64 ((rd_T46 l1_2 t480).f3)]) (ok := fun _ => True) (okp := fun _ => True) ?hr ?hp (fun _ hk => hk) trivial (Below.refl _ _) (Nat.le_refl _) (by simp) ?_; (case hd => rfl); (case hg => rfl); (case hr => first | (go_simp; done) | (go_simp; rfl)); (case hp => exact (Reps.one (show Kd.M (Kd.int .i64) _ _ _ ((rd_T46 l0_2 t478).f3) [.int .i64 ((rd_T46 l0_2 t478).f3)] from rfl) (Reps.one (show Kd.M (Kd.int .i64) _ _ _ ((rd_T46 l1_2 t480).f3) [.int .i64 ((rd_T46 l1_2 t480).f3)] from rfl) (Reps.none _ _))))
                    intro v484 w60 ho61 hb hg_ hnew_
                    clear hg_ hnew_
                    (first | rw [← Ny483.out] at ho61 | (simp only [Int.reduceToNat] at ho61; rw [← Ny483.out] at ho61))
                    replace HO_5 := Aside0.mk (Kd.S_elder' (zS HO_5) (Kd.R_base ho61) hb)
                    have HO485 := Aside0.mk (Kd.R_lower (Kd.R_new' ho61 (Kd.R_lt (zR HO_10))) (below_size (zB HB)))
                    replace HO_10 := Aside0.mk (Kd.R_elder' (zR HO_10) (Kd.R_base ho61) hb)
                    replace BK454 := kB BK454 hb
                    replace BK455 := kB BK455 hb
                    replace HB := bS HB hb
                    clear hb ho61
                    refine hK.out _ _ ⟨bc0 BK454, bc1 BK454, bc2 BK454, bc0 BK455, bc1 BK455, bc2 BK455, (hL HB hw481_0), (hL HB hw481_1), (hL HB hw481_2), (hL HB hw481_3), (hL HB hw482_0), (hL HB hw482_1), (hL HB hw482_2), (hL HB hw482_3)⟩ (fun hHeld => ?_)
                    clear hK K
                    refine nU 101 ?_
                    refine pU 13 (some 14) (bm 14 16383) HT_ rfl rfl ?_
                    refine done_ (done_of HT_.out (by kernel_rfl)) ?_
                    try clear hHeld
                    obtain ⟨Ao62, co62, eo62⟩ := Kd.S_slice HO_5.out
                    subst eo62
                    obtain ⟨Ao63, co63, eo63⟩ := Kd.R_slice HO485.out
                    subst eo63
                    try go_wp2_with (first | ((with_reducible refine gate_callee (f := 60) rfl ?_); refine goesL_ (some 104) rfl rfl Try.func60 (by kernel_rfl) rfl #[.slice Ao62 x5_5.length co62, .slice Ao63 y483.length co63] rfl zG ?_; (with_reducible refine (spec_l14Has.calls kj44 _ _ x5_5 _ _ y483 true _ ?side1 ?side2 ?side3 ?side4 A57.out).mono ?_); (case side1 => exact cU (Kd.S_reads' HO_5.out).2.2); (case side2 => exact (Kd.S_reads' HO_5.out).2.1); (case side3 => exact cU (Kd.R_reads' HO485.out).2.2); (case side4 => exact (Kd.R_reads' HO485.out).2.1); rintro e w' ⟨rfl, ⟨nd, rfl⟩⟩; refine ⟨_, rfl, ?_⟩))
                    go_roundg kj44
                    case measure => have := HJ2.out; have := HK2.out; have := HK3.out; have := HJ31.out; have := HK5.out; have := HJ44.out; omega
                    case rel => exact ⟨(x5_5), (wrap64 (x11_5 + 1)), zF, H', ⟨by have := HJ2.out; have := HK2.out; have := HK3.out; have := HJ31.out; have := HK5.out; have := HJ44.out; omega⟩, ⟨by (with_reducible repeat (first | apply Kd.S_alloc | apply Kd.S_drewN | apply Kd.S_drew)); exact Kd.S_mono HO_5.out (fun _ hk => hk.1)⟩, ⟨by (with_reducible repeat (first | apply Kd.R_alloc | apply Kd.R_drewN | apply Kd.R_drew)); exact Kd.R_mono HO_10.out (fun _ hk => trivial)⟩, ⟨zK BK454⟩, ⟨zK BK455⟩, ⟨zB HB⟩⟩
                   ·replace c58 := Bool.eq_false_iff.mpr c58
                    subst c58
                    have H1 : (if x5_5.length < 5864062014805 then (spec_FollowPairs.l2 kj44 (x5_5 ++ [y483]) x6_2 (rd (rd_L7 x5_2 x6_2) 0) (rd (rd_L7 x5_2 x6_2) 1) x9_3 x10_31 (wrap64 (x11_5 + 1)) a0_0 l0_1 l0_2 a1_0 l1_1 l1_2) else (none)) = some r := by rw [if_neg (show ¬ (false = true) by decide)] at H; exact H
                    clear H
                    have H := H1
                    clear H1
                    obtain ⟨c64, H⟩ := ifS H
                    have LMc64 := Aside0.mk c64
                    clear c64
                    obtain ⟨y487, hy487⟩ : ∃ y_ : List (List Int), y_ = (x5_5 ++ [y483]) := ⟨_, rfl⟩
                    replace H : (spec_FollowPairs.l2 kj44 y487 x6_2 (rd (rd_L7 x5_2 x6_2) 0) (rd (rd_L7 x5_2 x6_2) 1) x9_3 x10_31 (wrap64 (x11_5 + 1)) a0_0 l0_1 l0_2 a1_0 l1_1 l1_2) = some r := by first | (rw [hy487]; with_reducible exact H) | (rw [hy487]; exact H) | exact H
                    have Ny487 := Aside0.mk hy487
                    clear hy487
                    have H' := Aside0.mk H
                    clear H
                    try go_wp2
                    replace HO_5 := Aside0.mk (Kd.S_drew HO_5.out)
                    replace HO_10 := Aside0.mk (Kd.R_drew HO_10.out)
                    replace BK454 := Aside0.mk (blk_drew BK454.out)
                    replace BK455 := Aside0.mk (blk_drew BK455.out)
                    replace HB := Aside0.mk (below_drew1 HB.out)
                    have p481 : 0 ≤ (t478 : Int) := zD
                    have q481 : t478 < (l0_2.length : Int) := zD
                    obtain ⟨ad481, e481, hx481_0, hx481_1, hx481_2, hx481_3⟩ := at_T46 HR0_2.out t478 p481 q481
                    have hw481_3 := hx481_3
                    have hw481_2 := hx481_2
                    have hw481_1 := hx481_1
                    have hw481_0 := hx481_0
                    cases e481
                    replace hx481_0 := hL HB hx481_0
                    replace hx481_1 := hL HB hx481_1
                    replace hx481_2 := hL HB hx481_2
                    replace hx481_3 := hL HB hx481_3
                    replace p481 := eq_true p481
                    replace q481 := eq_true q481
                    have p482 : 0 ≤ (t480 : Int) := zD
                    have q482 : t480 < (l1_2.length : Int) := zD
                    obtain ⟨ad482, e482, hx482_0, hx482_1, hx482_2, hx482_3⟩ := at_T46 HR1_2.out t480 p482 q482
                    have hw482_3 := hx482_3
                    have hw482_2 := hx482_2
                    have hw482_1 := hx482_1
                    have hw482_0 := hx482_0
                    cases e482
                    replace hx482_0 := hL HB hx482_0
                    replace hx482_1 := hL HB hx482_1
                    replace hx482_2 := hL HB hx482_2
                    replace hx482_3 := hL HB hx482_3
                    replace p482 := eq_true p482
                    replace q482 := eq_true q482
                    refine start_ (n := 14) (S := fun w' => w'.cell? ⟨gb454, 0, none⟩ = some (.int .i64 a0_0) ∧ w'.cell? ⟨gb454, 1, none⟩ = some (.slice A0_1 l0_1.length c0_1) ∧ w'.cell? ⟨gb454, 2, none⟩ = some (.slice (some ad481) l0_2.length c0_2) ∧ w'.cell? ⟨gb455, 0, none⟩ = some (.int .i64 a1_0) ∧ w'.cell? ⟨gb455, 1, none⟩ = some (.slice A1_1 l1_1.length c1_1) ∧ w'.cell? ⟨gb455, 2, none⟩ = some (.slice (some ad482) l1_2.length c1_2) ∧ w'.cell? (ad481.add ((t478).toNat * 4)) = some (.int .i64 ((rd_T46 l0_2 t478).f0)) ∧ w'.cell? ⟨(ad481.add ((t478).toNat * 4)).block, (ad481.add ((t478).toNat * 4)).off + 1, none⟩ = some (.bool ((rd_T46 l0_2 t478).f1)) ∧ w'.cell? ⟨(ad481.add ((t478).toNat * 4)).block, (ad481.add ((t478).toNat * 4)).off + 2, none⟩ = some (.int .i64 ((rd_T46 l0_2 t478).f2)) ∧ w'.cell? ⟨(ad481.add ((t478).toNat * 4)).block, (ad481.add ((t478).toNat * 4)).off + 3, none⟩ = some (.int .i64 ((rd_T46 l0_2 t478).f3)) ∧ w'.cell? (ad482.add ((t480).toNat * 4)) = some (.int .i64 ((rd_T46 l1_2 t480).f0)) ∧ w'.cell? ⟨(ad482.add ((t480).toNat * 4)).block, (ad482.add ((t480).toNat * 4)).off + 1, none⟩ = some (.bool ((rd_T46 l1_2 t480).f1)) ∧ w'.cell? ⟨(ad482.add ((t480).toNat * 4)).block, (ad482.add ((t480).toNat * 4)).off + 2, none⟩ = some (.int .i64 ((rd_T46 l1_2 t480).f2)) ∧ w'.cell? ⟨(ad482.add ((t480).toNat * 4)).block, (ad482.add ((t480).toNat * 4)).off + 3, none⟩ = some (.int .i64 ((rd_T46 l1_2 t480).f3))) (ds := []) (bm 14 0) (by kernel_rfl) rfl (bm0 _) ⟨bc0 BK454, bc1 BK454, bc2 BK454, bc0 BK455, bc1 BK455, bc2 BK455, (hL HB hw481_0), (hL HB hw481_1), (hL HB hw481_2), (hL HB hw481_3), (hL HB hw482_0), (hL HB hw482_1), (hL HB hw482_2), (hL HB hw482_3)⟩ (fun hHeld => ?_); refine with_tabW spec_FollowPairs.tab22 spec_FollowPairs.bits22 (fun HT_ HW_ => ?_)
                    generalize wc.drew = w65 at HO_5 HO_10 BK454 BK455 HB hx481_0 hx481_1 hx481_2 hx481_3 hx482_0 hx482_1 hx482_2 hx482_3 hHeld ⊢
                    refine pU 0 (some 89) (bm 14 1) HT_ rfl rfl ?_
                    refine pU 2 (some 91) (bm 14 5) HT_ rfl rfl ?_
                    refine pU 6 (some 95) (bm 14 69) HT_ rfl rfl ?_
                    refine pU 8 (some 97) (bm 14 325) HT_ rfl rfl ?_
                    refine tU 1 (some 90) (bm 14 327) HT_ HW_ rfl rfl hHeld ?_
                    refine pU 3 (some 92) (bm 14 335) HT_ rfl rfl ?_
                    refine pU 4 (some 93) (bm 14 351) HT_ rfl rfl ?_
                    refine tU 5 (some 94) (bm 14 383) HT_ HW_ rfl rfl hHeld ?_
                    refine tU 7 (some 96) (bm 14 511) HT_ HW_ rfl rfl hHeld ?_
                    refine pU 9 (some 98) (bm 14 1023) HT_ rfl rfl ?_
                    refine pU 10 (some 99) (bm 14 2047) HT_ rfl rfl ?_
                    refine tU 11 (some 100) (bm 14 4095) HT_ HW_ rfl rfl hHeld ?_
                    refine one_ (i := 12) (N := some 101) (bm 14 8191) rfl rfl (one_of HT_.out (by kernel_rfl)) (by decide) (fun K hK => ?_)
                    refine Kd.R_lit_step (Kd.int .i64) _ 3 ?hg (N := 101) ?hd (xs := ([(rd_T46 l0_2 t478).f3, (rd_T46 l1_2 t480).f3] : List Int)) (inner := [.int .i64 ((rd_T46 l0_2 t478).f3), .int .i64 ((rd_T46 l1_2 t480).f3)]) (ok := fun _ => True) (okp := fun _ => True) ?hr ?hp (fun _ hk => hk) trivial (Below.refl _ _) (Nat.le_refl _) (by simp) ?_; (case hd => rfl); (case hg => rfl); (case hr => first | (go_simp; done) | (go_simp; rfl)); (case hp => exact (Reps.one (show Kd.M (Kd.int .i64) _ _ _ ((rd_T46 l0_2 t478).f3) [.int .i64 ((rd_T46 l0_2 t478).f3)] from rfl) (Reps.one (show Kd.M (Kd.int .i64) _ _ _ ((rd_T46 l1_2 t480).f3) [.int .i64 ((rd_T46 l1_2 t480).f3)] from rfl) (Reps.none _ _))))
                    intro v484 w66 ho67 hb hg_ hnew_
                    clear hg_ hnew_
                    (first | rw [← Ny483.out] at ho67 | (simp only [Int.reduceToNat] at ho67; rw [← Ny483.out] at ho67))
                    replace HO_5 := Aside0.mk (Kd.S_elder' (zS HO_5) (Kd.R_base ho67) hb)
                    have HO485 := Aside0.mk (Kd.R_lower (Kd.R_new' ho67 (Kd.R_lt (zR HO_10))) (below_size (zB HB)))
                    replace HO_10 := Aside0.mk (Kd.R_elder' (zR HO_10) (Kd.R_base ho67) hb)
                    replace BK454 := kB BK454 hb
                    replace BK455 := kB BK455 hb
                    replace HB := bS HB hb
                    clear hb ho67
                    refine hK.out _ _ ⟨bc0 BK454, bc1 BK454, bc2 BK454, bc0 BK455, bc1 BK455, bc2 BK455, (hL HB hw481_0), (hL HB hw481_1), (hL HB hw481_2), (hL HB hw481_3), (hL HB hw482_0), (hL HB hw482_1), (hL HB hw482_2), (hL HB hw482_3)⟩ (fun hHeld => ?_)
                    clear hK K
                    refine nU 101 ?_
                    refine pU 13 (some 14) (bm 14 16383) HT_ rfl rfl ?_
                    refine done_ (done_of HT_.out (by kernel_rfl)) ?_
                    try clear hHeld
                    obtain ⟨Ao68, co68, eo68⟩ := Kd.S_slice HO_5.out
                    subst eo68
                    obtain ⟨Ao69, co69, eo69⟩ := Kd.R_slice HO485.out
                    subst eo69
                    try go_wp2_with (first | ((with_reducible refine gate_callee (f := 60) rfl ?_); refine goesL_ (some 104) rfl rfl Try.func60 (by kernel_rfl) rfl #[.slice Ao68 x5_5.length co68, .slice Ao69 y483.length co69] rfl zG ?_; (with_reducible refine (spec_l14Has.calls kj44 _ _ x5_5 _ _ y483 false _ ?side1 ?side2 ?side3 ?side4 A57.out).mono ?_); (case side1 => exact cU (Kd.S_reads' HO_5.out).2.2); (case side2 => exact (Kd.S_reads' HO_5.out).2.1); (case side3 => exact cU (Kd.R_reads' HO485.out).2.2); (case side4 => exact (Kd.R_reads' HO485.out).2.1); rintro e w' ⟨rfl, ⟨nd, rfl⟩⟩; refine ⟨_, rfl, ?_⟩) | ((with_reducible refine gate_builtin (b := .append) (xs := #[.tmp 106, .tmp 108]) rfl ?_); at_builtin; refine Kd.S_append (Kd.slice 3 (Kd.int .i64)) (w0 := w) w.heap.size rfl (.tmp 106) (.tmp 108) 33 31 (.slice none 0 0) 24 rfl Try.underlying33 info31 rfl (by decide) (by omega) (.slice Ao68 x5_5.length co68) x5_5 y483 [.slice Ao69 y483.length co69] (fun k_ => some k_ ≠ (.slice (some ad477) x10_31.length co46 : Value).ownBlock) (fun k_ => some k_ = (.slice Ao69 y483.length co69 : Value).ownBlock) rfl rfl ?aP (fun k_ hk_ => ((Kd.R_mono (ok' := fun k_ => ((fun k_ => some k_ ≠ (.slice (some ad477) x10_31.length co46 : Value).ownBlock)) k_ ∧ some k_ ≠ (.slice Ao68 x5_5.length co68 : Value).ownBlock) (Kd.R_apart' (HO485.out) (Kd.S_typed HO_5.out) (by decide)) (fun k_ hk => ⟨hk.1.2, hk.2⟩))).1 k_ hk_.symm) ?aF ?aO ?aB ?aS ?aL ?_; (case aP => exact Kd.M_row (Kd.R_mono (Kd.R_tight rfl (Kd.R_mono (ok' := fun k_ => ((fun k_ => some k_ ≠ (.slice (some ad477) x10_31.length co46 : Value).ownBlock)) k_ ∧ some k_ ≠ (.slice Ao68 x5_5.length co68 : Value).ownBlock) (Kd.R_apart' (HO485.out) (Kd.S_typed HO_5.out) (by decide)) (fun k_ hk => ⟨hk.1.2, hk.2⟩))) (fun _ h_ => h_))); (case aB => exact (zB HB)); (case aF => exact (fun k_ hk => Kd.fresh' (Kd.R_lt (zR HO_10)) k_ hk)); (case aO => exact (by (with_reducible repeat (first | apply Kd.S_alloc | apply Kd.S_drewN | apply Kd.S_drew)); exact Kd.S_mono HO_5.out (fun k_ hk => ⟨hk.1, fun e_ => hk.2 e_⟩))); (case aS => exact (below_size (zB HB))); (case aL => have := LMc64.out; omega); intro v488 w70 ho hb hg hat; rw [← Ny487.out] at ho; replace HO_10 := Aside0.mk (Kd.R_over' (zR HO_10) (Kd.S_typed (zS HO_5)) (by decide) hg); replace BK454 := Aside0.mk (blk_grown (g := gb454) (o := .cells #[.int .i64 a0_0, .slice A0_1 l0_1.length c0_1, .slice (some ad481) l0_2.length c0_2] 27 (0, 0)) (zK BK454) hg (Kd.S_ne HO_5.out BK454.out (by decide))); replace BK455 := Aside0.mk (blk_grown (g := gb455) (o := .cells #[.int .i64 a1_0, .slice A1_1 l1_1.length c1_1, .slice (some ad482) l1_2.length c1_2] 27 (0, 0)) (zK BK455) hg (Kd.S_ne HO_5.out BK455.out (by decide))); replace HB := Aside0.mk (hb); have HO489 := Aside0.mk (ho); clear HO_5 HO485; clear ho hb hg hat))
                    go_roundg kj44
                    case measure => have := HJ2.out; have := HK2.out; have := HK3.out; have := HJ31.out; have := HK5.out; have := HJ44.out; omega
                    case rel => exact ⟨(y487), (wrap64 (x11_5 + 1)), zF, H', ⟨by have := HJ2.out; have := HK2.out; have := HK3.out; have := HJ31.out; have := HK5.out; have := HJ44.out; omega⟩, ⟨zS HO489⟩, ⟨by (with_reducible repeat (first | apply Kd.R_alloc | apply Kd.R_drewN | apply Kd.R_drew)); exact Kd.R_mono HO_10.out (fun _ hk => trivial)⟩, ⟨zK BK454⟩, ⟨zK BK455⟩, ⟨zB HB⟩⟩
               ·rw [if_neg c41] at H
                have c41b0 : decide (x11_5 < (x10_31.length : Int)) = false := decide_eq_false c41
                clear c41
                have H' := Aside0.mk H
                clear H
                obtain ⟨Ao71, co71, eo71⟩ := Kd.R_slice HO_10.out
                subst eo71
                go_wp2
                go_roundg k5
                case measure => have := HJ2.out; have := HK2.out; have := HK3.out; have := HJ31.out; have := HK5.out; omega
                case rel => exact ⟨(x5_5), (wrap64 (x9_3 - 1)), zF, H', ⟨by have := HJ2.out; have := HK2.out; have := HK3.out; have := HJ31.out; have := HK5.out; omega⟩, ⟨by (with_reducible repeat (first | apply Kd.S_alloc | apply Kd.S_drewN | apply Kd.S_drew)); exact Kd.S_mono HO_5.out (fun _ hk => trivial)⟩, ⟨zK BK454⟩, ⟨zK BK455⟩, ⟨zB HB⟩⟩
          ·rw [if_neg c30] at H
           have c30b0 : decide (0 ≤ x9_3) = false := decide_eq_false c30
           clear c30
           have H' := Aside0.mk H
           clear H
           go_wp2
           go_roundg k3
           case measure => have := HJ2.out; have := HK2.out; have := HK3.out; omega
           case rel => exact ⟨(x5_3), (wrap64 (x6_2 + 1)), zF, H', ⟨by have := HJ2.out; have := HK2.out; have := HK3.out; omega⟩, ⟨zS HO_5⟩, ⟨zK BK454⟩, ⟨zK BK455⟩, ⟨zB HB⟩⟩
       ·rw [if_neg c25] at H
        have c25b0 : decide (x6_2 < (x5_2.length : Int)) = false := decide_eq_false c25
        clear c25
        obtain rfl := Option.some.inj H
        obtain ⟨Ao72, co72, eo72⟩ := Kd.S_slice HO_5.out
        subst eo72
        go_wp2
        go_ret
        exact ⟨_, zE, by (with_reducible repeat (first | apply Kd.S_alloc | apply Kd.S_drewN | apply Kd.S_drew)); exact HO_5.out, zB HB⟩
    ·rw [if_neg c20] at H
     exact absurd H (by simp)

end Go.Proofs.Ytfibjclnaeocbaa.PFnChain
