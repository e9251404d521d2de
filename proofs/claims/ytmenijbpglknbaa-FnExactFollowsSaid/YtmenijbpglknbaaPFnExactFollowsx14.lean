-- WRITTEN by pp.py, this session's own wrapper around the print; not trusted: Lean checks it
import Derived.Test.YtmenijbpglknbaaPFnExactFollowsx0
import Derived.Test.YtmenijbpglknbaaPFnExactFollowsx11
import Derived.Test.YtmenijbpglknbaaPFnExactFollowsx13
namespace Go.Proofs.Ytmenijbpglknbaa.PFnExactFollows
open Go.RowKit Go.Proofs.Ytmenijbpglknbaa.Hw Go.Proofs.YtmenijbpglknbaaW.PrintWords Go.Proofs.YtmenijbpglknbaaW.PrintLast Go.Proofs.YtmenijbpglknbaaW.PrintMore
attribute [local go_sem] max2_int min2_int max_two min_two max_three min_three max_four min_four   -- for this text's walks alone
set_option linter.unusedVariables false
set_option linter.unusedSimpArgs false
set_option linter.unusedSectionVars false

/-! ### impl_FollowsAt: function 56 -/
mutual
def impl_FollowsAt.j0 : Nat → Int → Int → List Int → List Int → List Int → List Int → Bool → Int → List Bool → List (S64) → Int → List Bool → List (S64) → Option (Bool)
 | 0, _, _, _, _, _, _, _, _, _, _, _, _, _ => none
 | k + 1, x2, x3, x9, x10, x11, x12, x25, x424000, x424001, x424002, x425000, x425001, x425002 => if x25 = true then (some false) else (if ((decide ((x11.length : Int) > 0)) != (decide ((x9.length : Int) > 0))) = true then (impl_FollowsAt.j1 k x2 x3 true x424000 x424001 x424002 x425000 x425001 x425002) else (if (x12.length : Int) = 0 then (impl_FollowsAt.j1 k x2 x3 (decide ((x10.length : Int) > 0)) x424000 x424001 x424002 x425000 x425001 x425002) else (impl_FollowsAt.j1 k x2 x3 false x424000 x424001 x424002 x425000 x425001 x425002)))
def impl_FollowsAt.j1 : Nat → Int → Int → Bool → Int → List Bool → List (S64) → Int → List Bool → List (S64) → Option (Bool)
 | 0, _, _, _, _, _, _, _, _, _ => none
 | k + 1, x2, x3, x38, x424000, x424001, x424002, x425000, x425001, x425002 => if x38 = true then (some false) else ((impl_isEnd.f x424000 x424001 x424002 x2).bind fun t443 => (if t443 = true then (some true) else ((impl_isEnd.f x425000 x425001 x425002 x3).bind fun t444 => (some (!t444)))))
end
def impl_FollowsAt.f (k : Nat) (a0_0 : Int) (l0_1 : List Bool) (l0_2 : List (S64)) (a1_0 : Int) (l1_1 : List Bool) (l1_2 : List (S64)) (a2 : Int) (a3 : Int) : Option (Bool) := (impl_MovesFrom.f k a0_0 l0_1 l0_2 a2 true).bind fun t425 => ((impl_MovesFrom.f k a0_0 l0_1 l0_2 a2 false).bind fun t428 => ((impl_MovesFrom.f k a1_0 l1_1 l1_2 a3 true).bind fun t431 => ((impl_MovesFrom.f k a1_0 l1_1 l1_2 a3 false).bind fun t434 => ((impl_without.f k t434 t428).bind fun t437 => (if (t437.length : Int) > 0 then (impl_FollowsAt.j0 k a2 a3 t425 t428 t431 t434 true a0_0 l0_1 l0_2 a1_0 l1_1 l1_2) else ((impl_without.f k t425 t431).bind fun t440 => (impl_FollowsAt.j0 k a2 a3 t425 t428 t431 t434 (decide ((t440.length : Int) > 0)) a0_0 l0_1 l0_2 a1_0 l1_1 l1_2)))))))
theorem impl_FollowsAt.mono_l : ∀ k, (∀ y0 y1 y2 y3 y4 y5 y6 y7 y8 y9 y10 y11 y12, LeO (impl_FollowsAt.j0 k y0 y1 y2 y3 y4 y5 y6 y7 y8 y9 y10 y11 y12) (impl_FollowsAt.j0 (k + 1) y0 y1 y2 y3 y4 y5 y6 y7 y8 y9 y10 y11 y12)) ∧ (∀ y0 y1 y2 y3 y4 y5 y6 y7 y8, LeO (impl_FollowsAt.j1 k y0 y1 y2 y3 y4 y5 y6 y7 y8) (impl_FollowsAt.j1 (k + 1) y0 y1 y2 y3 y4 y5 y6 y7 y8))
 | 0 => ⟨fun _ _ _ _ _ _ _ _ _ _ _ _ _ r h => by simp [impl_FollowsAt.j0] at h, fun _ _ _ _ _ _ _ _ _ r h => by simp [impl_FollowsAt.j1] at h⟩
 | k + 1 => by
  obtain ⟨ih0, ih1⟩ := impl_FollowsAt.mono_l k
  refine ⟨?_, ?_⟩
  ·intro y0 y1 y2 y3 y4 y5 y6 y7 y8 y9 y10 y11 y12
   unfold impl_FollowsAt.j0
   repeat' first
   | (with_reducible exact ih0 _ _ _ _ _ _ _ _ _ _ _ _ _)
   | (with_reducible exact ih1 _ _ _ _ _ _ _ _ _)
   | (with_reducible exact impl_MovesFrom.mono _ _ _ _ _ _)
   | (with_reducible exact impl_without.mono _ _ _)
   | (with_reducible exact LeO.refl _)
   | (with_reducible exact LeO.none _)
   | (with_reducible refine LeO.ite ?_ ?_)
   | (with_reducible refine LeO.bind ?_ (fun _ => ?_))
   | exact ih0 _ _ _ _ _ _ _ _ _ _ _ _ _
   | exact ih1 _ _ _ _ _ _ _ _ _
   | exact impl_MovesFrom.mono _ _ _ _ _ _
   | exact impl_without.mono _ _ _
   | exact LeO.none _
   | refine LeO.ite ?_ ?_
   | refine LeO.bind ?_ (fun _ => ?_)
  ·intro y0 y1 y2 y3 y4 y5 y6 y7 y8
   unfold impl_FollowsAt.j1
   repeat' first
   | (with_reducible exact ih0 _ _ _ _ _ _ _ _ _ _ _ _ _)
   | (with_reducible exact ih1 _ _ _ _ _ _ _ _ _)
   | (with_reducible exact impl_MovesFrom.mono _ _ _ _ _ _)
   | (with_reducible exact impl_without.mono _ _ _)
   | (with_reducible exact LeO.refl _)
   | (with_reducible exact LeO.none _)
   | (with_reducible refine LeO.ite ?_ ?_)
   | (with_reducible refine LeO.bind ?_ (fun _ => ?_))
   | exact ih0 _ _ _ _ _ _ _ _ _ _ _ _ _
   | exact ih1 _ _ _ _ _ _ _ _ _
   | exact impl_MovesFrom.mono _ _ _ _ _ _
   | exact impl_without.mono _ _ _
   | exact LeO.none _
   | refine LeO.ite ?_ ?_
   | refine LeO.bind ?_ (fun _ => ?_)
theorem impl_FollowsAt.mono : ∀ a0 a1 a2 a3 a4 a5 a6 a7 k, LeO (impl_FollowsAt.f k a0 a1 a2 a3 a4 a5 a6 a7) (impl_FollowsAt.f (k + 1) a0 a1 a2 a3 a4 a5 a6 a7) := by
 intro a0 a1 a2 a3 a4 a5 a6 a7 k
 obtain ⟨ih0, ih1⟩ := impl_FollowsAt.mono_l k
 unfold impl_FollowsAt.f
 repeat' first
   | (with_reducible exact ih0 _ _ _ _ _ _ _ _ _ _ _ _ _)
   | (with_reducible exact ih1 _ _ _ _ _ _ _ _ _)
   | (with_reducible exact impl_MovesFrom.mono _ _ _ _ _ _)
   | (with_reducible exact impl_without.mono _ _ _)
   | (with_reducible exact LeO.refl _)
   | (with_reducible exact LeO.none _)
   | (with_reducible refine LeO.ite ?_ ?_)
   | (with_reducible refine LeO.bind ?_ (fun _ => ?_))
   | exact ih0 _ _ _ _ _ _ _ _ _ _ _ _ _
   | exact ih1 _ _ _ _ _ _ _ _ _
   | exact impl_MovesFrom.mono _ _ _ _ _ _
   | exact impl_without.mono _ _ _
   | exact LeO.none _
   | refine LeO.ite ?_ ?_
   | refine LeO.bind ?_ (fun _ => ?_)
def impl_FollowsAt.T1 : Bool × List (List Nat × List Nat) := (true, [([], []), ([], []), ([0, 1], [0, 1]), ([], []), ([], []), ([3, 4, 2], [3, 4]), ([2, 5, 0, 1, 2], [2]), ([5, 6, 0, 1, 2, 3, 4, 5, 6], [5])])
def impl_FollowsAt.B1 : List Nat := [0, 0, 3, 0, 0, 31, 63, 127]
theorem impl_FollowsAt.tab1 : rtab .any (opsOf Try.f56 1) = impl_FollowsAt.T1 := by kernel_rfl
theorem impl_FollowsAt.bits1 : waitsOk impl_FollowsAt.T1.2 impl_FollowsAt.B1 = true := by kernel_rfl
def impl_FollowsAt.T2 : Bool × List (List Nat × List Nat) := (true, [([], []), ([], []), ([0, 1], [0, 1]), ([], []), ([], []), ([3, 4, 2], [3, 4]), ([2, 5, 0, 1, 2], [2]), ([5, 6, 0, 1, 2, 3, 4, 5, 6], [5])])
def impl_FollowsAt.B2 : List Nat := [0, 0, 3, 0, 0, 31, 63, 127]
theorem impl_FollowsAt.tab2 : rtab .any (opsOf Try.f56 2) = impl_FollowsAt.T2 := by kernel_rfl
theorem impl_FollowsAt.bits2 : waitsOk impl_FollowsAt.T2.2 impl_FollowsAt.B2 = true := by kernel_rfl
set_option maxHeartbeats 8000000 in
set_option maxRecDepth 100000 in
theorem impl_FollowsAt.calls (k : Nat) (a0_0 : Int) (A0_1 : Option Addr) (c0_1 : Nat) (l0_1 : List Bool) (A0_2 : Option Addr) (c0_2 : Nat) (l0_2 : List (S64)) (a1_0 : Int) (A1_1 : Option Addr) (c1_1 : Nat) (l1_1 : List Bool) (A1_2 : Option Addr) (c1_2 : Nat) (l1_2 : List (S64)) (a2 : Int) (a3 : Int) (r : Bool) (w : World) (hr0_1 : Kd.C Kd.bool w A0_1 l0_1.length l0_1) (hc0_1 : l0_1.length ≤ c0_1) (hr0_2 : Kd.C k64 w A0_2 l0_2.length l0_2) (hc0_2 : l0_2.length ≤ c0_2) (hr1_1 : Kd.C Kd.bool w A1_1 l1_1.length l1_1) (hc1_1 : l1_1.length ≤ c1_1) (hr1_2 : Kd.C k64 w A1_2 l1_2.length l1_2) (hc1_2 : l1_2.length ≤ c1_2) (h : impl_FollowsAt.f k a0_0 l0_1 l0_2 a1_0 l1_1 l1_2 a2 a3 = some r) :
  Calls Try.prog 56 #[.agg #[.int .i64 a0_0, .slice A0_1 l0_1.length c0_1, .slice A0_2 l0_2.length c0_2], .agg #[.int .i64 a1_0, .slice A1_1 l1_1.length c1_1, .slice A1_2 l1_2.length c1_2], .int .i64 a2, .int .i64 a3] w fun e w' => e = .returned (.bool r) ∧ Below w.heap.size w w' := by
 have hu31 := Try.underlying31
 have HR0_1 := Aside0.mk hr0_1
 have HC0_1 := Aside0.mk hc0_1
 clear hr0_1 hc0_1
 have HR0_2 := Aside0.mk hr0_2
 have HC0_2 := Aside0.mk hc0_2
 clear hr0_2 hc0_2
 have HR1_1 := Aside0.mk hr1_1
 have HC1_1 := Aside0.mk hc1_1
 clear hr1_1 hc1_1
 have HR1_2 := Aside0.mk hr1_2
 have HC1_2 := Aside0.mk hc1_2
 clear hr1_2 hc1_2
 have HB := Aside0.mk (Below.refl w.heap.size w)
 have H : ((impl_MovesFrom.f k a0_0 l0_1 l0_2 a2 true).bind fun t425 => ((impl_MovesFrom.f k a0_0 l0_1 l0_2 a2 false).bind fun t428 => ((impl_MovesFrom.f k a1_0 l1_1 l1_2 a3 true).bind fun t431 => ((impl_MovesFrom.f k a1_0 l1_1 l1_2 a3 false).bind fun t434 => ((impl_without.f k t434 t428).bind fun t437 => (if (t437.length : Int) > 0 then (impl_FollowsAt.j0 k a2 a3 t425 t428 t431 t434 true a0_0 l0_1 l0_2 a1_0 l1_1 l1_2) else ((impl_without.f k t425 t431).bind fun t440 => (impl_FollowsAt.j0 k a2 a3 t425 t428 t431 t434 (decide ((t440.length : Int) > 0)) a0_0 l0_1 l0_2 a1_0 l1_1 l1_2)))))))) = some r := h
 clear h
 replace H := Option.bind_eq_some_iff.mp H
 obtain ⟨t425, A50, H⟩ := H
 replace H : ((impl_MovesFrom.f k a0_0 l0_1 l0_2 a2 false).bind fun t428 => ((impl_MovesFrom.f k a1_0 l1_1 l1_2 a3 true).bind fun t431 => ((impl_MovesFrom.f k a1_0 l1_1 l1_2 a3 false).bind fun t434 => ((impl_without.f k t434 t428).bind fun t437 => (if (t437.length : Int) > 0 then (impl_FollowsAt.j0 k a2 a3 t425 t428 t431 t434 true a0_0 l0_1 l0_2 a1_0 l1_1 l1_2) else ((impl_without.f k t425 t431).bind fun t440 => (impl_FollowsAt.j0 k a2 a3 t425 t428 t431 t434 (decide ((t440.length : Int) > 0)) a0_0 l0_1 l0_2 a1_0 l1_1 l1_2))))))) = some r := H
 have A5 := Aside0.mk A50
 clear A50
 replace H := Option.bind_eq_some_iff.mp H
 obtain ⟨t428, A60, H⟩ := H
 replace H : ((impl_MovesFrom.f k a1_0 l1_1 l1_2 a3 true).bind fun t431 => ((impl_MovesFrom.f k a1_0 l1_1 l1_2 a3 false).bind fun t434 => ((impl_without.f k t434 t428).bind fun t437 => (if (t437.length : Int) > 0 then (impl_FollowsAt.j0 k a2 a3 t425 t428 t431 t434 true a0_0 l0_1 l0_2 a1_0 l1_1 l1_2) else ((impl_without.f k t425 t431).bind fun t440 => (impl_FollowsAt.j0 k a2 a3 t425 t428 t431 t434 (decide ((t440.length : Int) > 0)) a0_0 l0_1 l0_2 a1_0 l1_1 l1_2)))))) = some r := H
 have A6 := Aside0.mk A60
 clear A60
 replace H := Option.bind_eq_some_iff.mp H
 obtain ⟨t431, A70, H⟩ := H
 replace H : ((impl_MovesFrom.f k a1_0 l1_1 l1_2 a3 false).bind fun t434 => ((impl_without.f k t434 t428).bind fun t437 => (if (t437.length : Int) > 0 then (impl_FollowsAt.j0 k a2 a3 t425 t428 t431 t434 true a0_0 l0_1 l0_2 a1_0 l1_1 l1_2) else ((impl_without.f k t425 t431).bind fun t440 => (impl_FollowsAt.j0 k a2 a3 t425 t428 t431 t434 (decide ((t440.length : Int) > 0)) a0_0 l0_1 l0_2 a1_0 l1_1 l1_2))))) = some r := H
 have A7 := Aside0.mk A70
 clear A70
 replace H := Option.bind_eq_some_iff.mp H
 obtain ⟨t434, A80, H⟩ := H
 replace H : ((impl_without.f k t434 t428).bind fun t437 => (if (t437.length : Int) > 0 then (impl_FollowsAt.j0 k a2 a3 t425 t428 t431 t434 true a0_0 l0_1 l0_2 a1_0 l1_1 l1_2) else ((impl_without.f k t425 t431).bind fun t440 => (impl_FollowsAt.j0 k a2 a3 t425 t428 t431 t434 (decide ((t440.length : Int) > 0)) a0_0 l0_1 l0_2 a1_0 l1_1 l1_2)))) = some r := H
 have A8 := Aside0.mk A80
 clear A80
 have HC9 := Aside0.mk H
 clear H
 go_enter Try.func56, Try.ntmps56
 try go_wp2_with (first | ((with_reducible refine gate_dst (N := 4) rfl ?_); (try (refine gate_guard (by rfl) ?_; dsimp only)); refine box_event ?hg (N := 4) ?hd (cs := #[.int .i64 a0_0, .slice A0_1 l0_1.length c0_1, .slice A0_2 l0_2.length c0_2]) (t := 31) ?hr ?_; (case hd => rfl); (case hg => rfl); (case hr => first | (go_simp; done) | (go_simp; rfl)); intro gb423 hg w10 hbox hb; have n0_ := bS HB hb; have n1_ := Aside0.mk (hbox); have n2_ := gS HB hg; have n3_ := gS HB hg; clear HB; have HB := n0_; have BK423 := n1_; have GW423 := n2_; have GE423 := n3_; clear n0_ n1_ n2_ n3_; clear hb hbox hg) | ((with_reducible refine gate_dst (N := 5) rfl ?_); (try (refine gate_guard (by rfl) ?_; dsimp only)); refine box_event ?hg (N := 5) ?hd (cs := #[.int .i64 a1_0, .slice A1_1 l1_1.length c1_1, .slice A1_2 l1_2.length c1_2]) (t := 31) ?hr ?_; (case hd => rfl); (case hg => rfl); (case hr => first | (go_simp; done) | (go_simp; rfl)); intro gb424 hg w11 hbox hb; have n0_ := kB BK423 hb; have n1_ := bS HB hb; have n2_ := Aside0.mk (hbox); have n3_ := gS HB hg; have n4_ := gS HB hg; have n5_ := Aside0.mk ((by rw [hg]; exact Nat.ne_of_lt (blk_lt (g := gb423) (o := .cells #[.int .i64 a0_0, .slice A0_1 l0_1.length c0_1, .slice A0_2 l0_2.length c0_2] 31 (0, 0)) (zK BK423)) : gb423 ≠ gb424)); have n6_ := Aside0.mk ((by rw [hg]; exact Nat.ne_of_gt (blk_lt (g := gb423) (o := .cells #[.int .i64 a0_0, .slice A0_1 l0_1.length c0_1, .slice A0_2 l0_2.length c0_2] 31 (0, 0)) (zK BK423)) : gb424 ≠ gb423)); clear BK423; clear HB; have BK423 := n0_; have HB := n1_; have BK424 := n2_; have GW424 := n3_; have GE424 := n4_; have NB423_424 := n5_; have NB424_423 := n6_; clear n0_ n1_ n2_ n3_ n4_ n5_ n6_; clear hb hbox hg))
 have n0_ := Aside0.mk (blk_drew BK423.out)
 have n1_ := Aside0.mk (blk_drew BK424.out)
 have n2_ := Aside0.mk (below_drew1 HB.out)
 clear BK423
 clear BK424
 clear HB
 have BK423 := n0_
 have BK424 := n1_
 have HB := n2_
 clear n0_ n1_ n2_
 refine start_ (n := 8) (S := fun w' => w'.cell? ⟨gb423, 0, none⟩ = some (.int .i64 a0_0) ∧ w'.cell? ⟨gb423, 1, none⟩ = some (.slice A0_1 l0_1.length c0_1) ∧ w'.cell? ⟨gb423, 2, none⟩ = some (.slice A0_2 l0_2.length c0_2)) (ds := []) (bm 8 0) (by kernel_rfl) rfl (bm0 _) ⟨bc0 BK423, bc1 BK423, bc2 BK423⟩ (fun hHeld => ?_); refine with_tabW impl_FollowsAt.tab1 impl_FollowsAt.bits1 (fun HT_ HW_ => ?_)
 generalize w11.drew = w12 at BK423 BK424 HB hHeld ⊢
 refine pure_ (i := 1) (N := some 14) (v := ?_) (a' := ?_) (bm 8 2) rfl rfl (any_of HT_.out (by kernel_rfl)) (fun _ _ _ h => h) (Or.inl ⟨by rfl, ?_⟩) ?_ ?_
 rotate_left
 ·intro w'
  go_simp
  with_reducible rfl
 rotate_left
 ·simp only [Act.put, List.setIfInBounds_toArray, List.set_cons_zero, List.set_cons_succ, i64_w, i32_w]
  rfl
 refine pure_ (i := 4) (N := some 17) (v := ?_) (a' := ?_) (bm 8 18) rfl rfl (any_of HT_.out (by kernel_rfl)) (fun _ _ _ h => h) (Or.inl ⟨by rfl, ?_⟩) ?_ ?_
 rotate_left
 ·intro w'
  go_simp
  with_reducible rfl
 rotate_left
 ·simp only [Act.put, List.setIfInBounds_toArray, List.set_cons_zero, List.set_cons_succ, i64_w, i32_w]
  rfl
 refine take_ (i := 0) (N := some 13) (v := ?_) (a' := ?_) (bm 8 19) rfl rfl (take_ofW HT_.out HW_.out (by kernel_rfl)) (fun _ _ _ h => h) (Or.inl ⟨by rfl, ?_⟩) hHeld ?_ ?_
 rotate_left
 ·rintro w' ⟨s0, s1, s2⟩
  go_simp
  with_reducible rfl
 rotate_left
 ·simp only [Act.put, List.setIfInBounds_toArray, List.set_cons_zero, List.set_cons_succ, i64_w, i32_w]
  rfl
 refine take_ (i := 3) (N := some 16) (v := ?_) (a' := ?_) (bm 8 27) rfl rfl (take_ofW HT_.out HW_.out (by kernel_rfl)) (fun _ _ _ h => h) (Or.inl ⟨by rfl, ?_⟩) hHeld ?_ ?_
 rotate_left
 ·rintro w' ⟨s0, s1, s2⟩
  go_simp
  with_reducible rfl
 rotate_left
 ·simp only [Act.put, List.setIfInBounds_toArray, List.set_cons_zero, List.set_cons_succ, i64_w, i32_w]
  rfl
 refine one_ (i := 2) (N := some 15) (bm 8 31) rfl rfl (one_of HT_.out (by kernel_rfl)) (by decide) (fun K hK => ?_)
 refine goes_ Try.func64 (by kernel_rfl) rfl #[.agg #[.int .i64 a0_0, .slice A0_1 l0_1.length c0_1, .slice A0_2 l0_2.length c0_2], .int .i64 a2, .bool true] (by rfl) rfl rfl zG ?_
 with_reducible refine (impl_MovesFrom.calls k a0_0 _ _ l0_1 _ _ l0_2 a2 true t425 _ ?side1 ?side2 ?side3 ?side4 A5.out).mono ?_
 (case side1 => exact cS HR0_1 HB)
 (case side2 => exact HC0_1.out)
 (case side3 => exact cS HR0_2 HB)
 (case side4 => exact HC0_2.out)
 rintro e w13 ⟨v426, rfl, ho0, hb⟩
 refine ⟨_, rfl, ?_⟩
 have n0_ := Aside0.mk (Kd.R_lower ho0 (below_size (zB HB)))
 have n1_ := kB BK423 hb
 have n2_ := kB BK424 hb
 have n3_ := bS HB hb
 clear BK423
 clear BK424
 clear HB
 have HO427 := n0_
 have BK423 := n1_
 have BK424 := n2_
 have HB := n3_
 clear n0_ n1_ n2_ n3_
 (try clear hb)
 (try clear hb2)
 (try clear hk)
 (try clear hi)
 (try clear ho0)
 refine hK.out _ _ ⟨bc0 BK423, bc1 BK423, bc2 BK423⟩ (fun hHeld => ?_)
 clear hK K
 refine norm_ (a' := ?_) ?_ ?_
 rotate_left
 ·show Act.put _ (some 15) _ = _
  simp only [Act.put, List.setIfInBounds_toArray, List.set_cons_zero, List.set_cons_succ, i64_w, i32_w]
  rfl
 refine one_ (i := 5) (N := some 18) (bm 8 63) rfl rfl (one_of HT_.out (by kernel_rfl)) (by decide) (fun K hK => ?_)
 refine goes_ Try.func64 (by kernel_rfl) rfl #[.agg #[.int .i64 a0_0, .slice A0_1 l0_1.length c0_1, .slice A0_2 l0_2.length c0_2], .int .i64 a2, .bool false] (by rfl) rfl rfl zG ?_
 with_reducible refine (impl_MovesFrom.calls k a0_0 _ _ l0_1 _ _ l0_2 a2 false t428 _ ?side1 ?side2 ?side3 ?side4 A6.out).mono ?_
 (case side1 => exact cS HR0_1 HB)
 (case side2 => exact HC0_1.out)
 (case side3 => exact cS HR0_2 HB)
 (case side4 => exact HC0_2.out)
 rintro e w14 ⟨v429, rfl, ho0, hb⟩
 refine ⟨_, rfl, ?_⟩
 have n0_ := Aside0.mk (Kd.R_elder' (zR HO427) (Kd.R_base ho0) hb)
 have n1_ := Aside0.mk (Kd.R_lower (Kd.R_new' ho0 (Kd.R_lt (zR HO427))) (below_size (zB HB)))
 have n2_ := kB BK423 hb
 have n3_ := kB BK424 hb
 have n4_ := bS HB hb
 clear HO427
 clear BK423
 clear BK424
 clear HB
 have HO427 := n0_
 have HO430 := n1_
 have BK423 := n2_
 have BK424 := n3_
 have HB := n4_
 clear n0_ n1_ n2_ n3_ n4_
 (try clear hb)
 (try clear hb2)
 (try clear hk)
 (try clear hi)
 (try clear ho0)
 refine hK.out _ _ ⟨bc0 BK423, bc1 BK423, bc2 BK423⟩ (fun hHeld => ?_)
 clear hK K
 refine norm_ (a' := ?_) ?_ ?_
 rotate_left
 ·show Act.put _ (some 18) _ = _
  simp only [Act.put, List.setIfInBounds_toArray, List.set_cons_zero, List.set_cons_succ, i64_w, i32_w]
  rfl
 refine pure_ (i := 6) (N := some 9) (v := ?_) (a' := ?_) (bm 8 127) rfl rfl (any_of HT_.out (by kernel_rfl)) (fun _ _ _ h => h) (Or.inl ⟨by rfl, ?_⟩) ?_ ?_
 rotate_left
 ·intro w'
  go_simp
  with_reducible rfl
 rotate_left
 ·simp only [Act.put, List.setIfInBounds_toArray, List.set_cons_zero, List.set_cons_succ, i64_w, i32_w]
  rfl
 refine pure_ (i := 7) (N := some 10) (v := ?_) (a' := ?_) (bm 8 255) rfl rfl (any_of HT_.out (by kernel_rfl)) (fun _ _ _ h => h) (Or.inl ⟨by rfl, ?_⟩) ?_ ?_
 rotate_left
 ·intro w'
  go_simp
  with_reducible rfl
 rotate_left
 ·simp only [Act.put, List.setIfInBounds_toArray, List.set_cons_zero, List.set_cons_succ, i64_w, i32_w]
  rfl
 refine done_ (done_of HT_.out (by kernel_rfl)) ?_
 try clear hHeld
 try go_wp2
 have n0_ := Aside0.mk (Kd.R_drew HO427.out)
 have n1_ := Aside0.mk (Kd.R_drew HO430.out)
 have n2_ := Aside0.mk (blk_drew BK423.out)
 have n3_ := Aside0.mk (blk_drew BK424.out)
 have n4_ := Aside0.mk (below_drew1 HB.out)
 clear HO427
 clear HO430
 clear BK423
 clear BK424
 clear HB
 have HO427 := n0_
 have HO430 := n1_
 have BK423 := n2_
 have BK424 := n3_
 have HB := n4_
 clear n0_ n1_ n2_ n3_ n4_
 refine start_ (n := 8) (S := fun w' => w'.cell? ⟨gb424, 0, none⟩ = some (.int .i64 a1_0) ∧ w'.cell? ⟨gb424, 1, none⟩ = some (.slice A1_1 l1_1.length c1_1) ∧ w'.cell? ⟨gb424, 2, none⟩ = some (.slice A1_2 l1_2.length c1_2)) (ds := []) (bm 8 0) (by kernel_rfl) rfl (bm0 _) ⟨bc0 BK424, bc1 BK424, bc2 BK424⟩ (fun hHeld => ?_); refine with_tabW impl_FollowsAt.tab2 impl_FollowsAt.bits2 (fun HT_ HW_ => ?_)
 generalize w14.drew = w15 at HO427 HO430 BK423 BK424 HB hHeld ⊢
 refine pure_ (i := 1) (N := some 20) (v := ?_) (a' := ?_) (bm 8 2) rfl rfl (any_of HT_.out (by kernel_rfl)) (fun _ _ _ h => h) (Or.inl ⟨by rfl, ?_⟩) ?_ ?_
 rotate_left
 ·intro w'
  go_simp
  with_reducible rfl
 rotate_left
 ·simp only [Act.put, List.setIfInBounds_toArray, List.set_cons_zero, List.set_cons_succ, i64_w, i32_w]
  rfl
 refine pure_ (i := 4) (N := some 23) (v := ?_) (a' := ?_) (bm 8 18) rfl rfl (any_of HT_.out (by kernel_rfl)) (fun _ _ _ h => h) (Or.inl ⟨by rfl, ?_⟩) ?_ ?_
 rotate_left
 ·intro w'
  go_simp
  with_reducible rfl
 rotate_left
 ·simp only [Act.put, List.setIfInBounds_toArray, List.set_cons_zero, List.set_cons_succ, i64_w, i32_w]
  rfl
 refine take_ (i := 0) (N := some 19) (v := ?_) (a' := ?_) (bm 8 19) rfl rfl (take_ofW HT_.out HW_.out (by kernel_rfl)) (fun _ _ _ h => h) (Or.inl ⟨by rfl, ?_⟩) hHeld ?_ ?_
 rotate_left
 ·rintro w' ⟨s0, s1, s2⟩
  go_simp
  with_reducible rfl
 rotate_left
 ·simp only [Act.put, List.setIfInBounds_toArray, List.set_cons_zero, List.set_cons_succ, i64_w, i32_w]
  rfl
 refine take_ (i := 3) (N := some 22) (v := ?_) (a' := ?_) (bm 8 27) rfl rfl (take_ofW HT_.out HW_.out (by kernel_rfl)) (fun _ _ _ h => h) (Or.inl ⟨by rfl, ?_⟩) hHeld ?_ ?_
 rotate_left
 ·rintro w' ⟨s0, s1, s2⟩
  go_simp
  with_reducible rfl
 rotate_left
 ·simp only [Act.put, List.setIfInBounds_toArray, List.set_cons_zero, List.set_cons_succ, i64_w, i32_w]
  rfl
 refine one_ (i := 2) (N := some 21) (bm 8 31) rfl rfl (one_of HT_.out (by kernel_rfl)) (by decide) (fun K hK => ?_)
 refine goes_ Try.func64 (by kernel_rfl) rfl #[.agg #[.int .i64 a1_0, .slice A1_1 l1_1.length c1_1, .slice A1_2 l1_2.length c1_2], .int .i64 a3, .bool true] (by rfl) rfl rfl zG ?_
 with_reducible refine (impl_MovesFrom.calls k a1_0 _ _ l1_1 _ _ l1_2 a3 true t431 _ ?side1 ?side2 ?side3 ?side4 A7.out).mono ?_
 (case side1 => exact cS HR1_1 HB)
 (case side2 => exact HC1_1.out)
 (case side3 => exact cS HR1_2 HB)
 (case side4 => exact HC1_2.out)
 rintro e w16 ⟨v432, rfl, ho0, hb⟩
 refine ⟨_, rfl, ?_⟩
 have n0_ := Aside0.mk (Kd.R_elder' (zR HO427) (Kd.R_base ho0) hb)
 have n1_ := Aside0.mk (Kd.R_elder' (zR HO430) (Kd.R_base ho0) hb)
 have n2_ := Aside0.mk (Kd.R_lower (Kd.R_new' (Kd.R_new' ho0 (Kd.R_lt (zR HO427))) (Kd.R_lt (zR HO430))) (below_size (zB HB)))
 have n3_ := kB BK423 hb
 have n4_ := kB BK424 hb
 have n5_ := bS HB hb
 clear HO427
 clear HO430
 clear BK423
 clear BK424
 clear HB
 have HO427 := n0_
 have HO430 := n1_
 have HO433 := n2_
 have BK423 := n3_
 have BK424 := n4_
 have HB := n5_
 clear n0_ n1_ n2_ n3_ n4_ n5_
 (try clear hb)
 (try clear hb2)
 (try clear hk)
 (try clear hi)
 (try clear ho0)
 refine hK.out _ _ ⟨bc0 BK424, bc1 BK424, bc2 BK424⟩ (fun hHeld => ?_)
 clear hK K
 refine norm_ (a' := ?_) ?_ ?_
 rotate_left
 ·show Act.put _ (some 21) _ = _
  simp only [Act.put, List.setIfInBounds_toArray, List.set_cons_zero, List.set_cons_succ, i64_w, i32_w]
  rfl
 refine one_ (i := 5) (N := some 24) (bm 8 63) rfl rfl (one_of HT_.out (by kernel_rfl)) (by decide) (fun K hK => ?_)
 refine goes_ Try.func64 (by kernel_rfl) rfl #[.agg #[.int .i64 a1_0, .slice A1_1 l1_1.length c1_1, .slice A1_2 l1_2.length c1_2], .int .i64 a3, .bool false] (by rfl) rfl rfl zG ?_
 with_reducible refine (impl_MovesFrom.calls k a1_0 _ _ l1_1 _ _ l1_2 a3 false t434 _ ?side1 ?side2 ?side3 ?side4 A8.out).mono ?_
 (case side1 => exact cS HR1_1 HB)
 (case side2 => exact HC1_1.out)
 (case side3 => exact cS HR1_2 HB)
 (case side4 => exact HC1_2.out)
 rintro e w17 ⟨v435, rfl, ho0, hb⟩
 refine ⟨_, rfl, ?_⟩
 have n0_ := Aside0.mk (Kd.R_elder' (zR HO427) (Kd.R_base ho0) hb)
 have n1_ := Aside0.mk (Kd.R_elder' (zR HO430) (Kd.R_base ho0) hb)
 have n2_ := Aside0.mk (Kd.R_elder' (zR HO433) (Kd.R_base ho0) hb)
 have n3_ := Aside0.mk (Kd.R_lower (Kd.R_new' (Kd.R_new' (Kd.R_new' ho0 (Kd.R_lt (zR HO427))) (Kd.R_lt (zR HO430))) (Kd.R_lt (zR HO433))) (below_size (zB HB)))
 have n4_ := kB BK423 hb
 have n5_ := kB BK424 hb
 have n6_ := bS HB hb
 clear HO427
 clear HO430
 clear HO433
 clear BK423
 clear BK424
 clear HB
 have HO427 := n0_
 have HO430 := n1_
 have HO433 := n2_
 have HO436 := n3_
 have BK423 := n4_
 have BK424 := n5_
 have HB := n6_
 clear n0_ n1_ n2_ n3_ n4_ n5_ n6_
 (try clear hb)
 (try clear hb2)
 (try clear hk)
 (try clear hi)
 (try clear ho0)
 refine hK.out _ _ ⟨bc0 BK424, bc1 BK424, bc2 BK424⟩ (fun hHeld => ?_)
 clear hK K
 refine norm_ (a' := ?_) ?_ ?_
 rotate_left
 ·show Act.put _ (some 24) _ = _
  simp only [Act.put, List.setIfInBounds_toArray, List.set_cons_zero, List.set_cons_succ, i64_w, i32_w]
  rfl
 refine pure_ (i := 6) (N := some 11) (v := ?_) (a' := ?_) (bm 8 127) rfl rfl (any_of HT_.out (by kernel_rfl)) (fun _ _ _ h => h) (Or.inl ⟨by rfl, ?_⟩) ?_ ?_
 rotate_left
 ·intro w'
  go_simp
  with_reducible rfl
 rotate_left
 ·simp only [Act.put, List.setIfInBounds_toArray, List.set_cons_zero, List.set_cons_succ, i64_w, i32_w]
  rfl
 refine pure_ (i := 7) (N := some 12) (v := ?_) (a' := ?_) (bm 8 255) rfl rfl (any_of HT_.out (by kernel_rfl)) (fun _ _ _ h => h) (Or.inl ⟨by rfl, ?_⟩) ?_ ?_
 rotate_left
 ·intro w'
  go_simp
  with_reducible rfl
 rotate_left
 ·simp only [Act.put, List.setIfInBounds_toArray, List.set_cons_zero, List.set_cons_succ, i64_w, i32_w]
  rfl
 refine done_ (done_of HT_.out (by kernel_rfl)) ?_
 try clear hHeld
 go_upto_region 3 with (fail)
 go_cut [25] (fun v25 wc => ∃ (kq : Nat) (x25_8 : Bool), v25 = .bool x25_8 ∧ Aside0 (impl_FollowsAt.j0 kq a2 a3 t425 t428 t431 t434 x25_8 a0_0 l0_1 l0_2 a1_0 l1_1 l1_2 = some r) ∧ Aside0 (kq ≤ k) ∧ Aside0 (Kd.R (Kd.int .i64) 3 wc w.heap.size (fun k_ => some k_ ≠ (v429 : Value).ownBlock ∧ some k_ ≠ (v432 : Value).ownBlock ∧ some k_ ≠ (v435 : Value).ownBlock) v426 t425) ∧ Aside0 (Kd.R (Kd.int .i64) 3 wc w.heap.size (fun k_ => some k_ ≠ (v426 : Value).ownBlock ∧ some k_ ≠ (v432 : Value).ownBlock ∧ some k_ ≠ (v435 : Value).ownBlock) v429 t428) ∧ Aside0 (Kd.R (Kd.int .i64) 3 wc w.heap.size (fun k_ => some k_ ≠ (v426 : Value).ownBlock ∧ some k_ ≠ (v429 : Value).ownBlock ∧ some k_ ≠ (v435 : Value).ownBlock) v432 t431) ∧ Aside0 (Kd.R (Kd.int .i64) 3 wc w.heap.size (fun k_ => some k_ ≠ (v426 : Value).ownBlock ∧ some k_ ≠ (v429 : Value).ownBlock ∧ some k_ ≠ (v432 : Value).ownBlock) v435 t434) ∧ Aside0 (wc.heap[gb423]? = some (.cells #[.int .i64 a0_0, (.slice A0_1 l0_1.length c0_1), (.slice A0_2 l0_2.length c0_2)] 31 (0, 0))) ∧ Aside0 (wc.heap[gb424]? = some (.cells #[.int .i64 a1_0, (.slice A1_1 l1_1.length c1_1), (.slice A1_2 l1_2.length c1_2)] 31 (0, 0))) ∧ Aside0 (Below w.heap.size w wc))
 case first =>
  have H := HC9.out
  clear HC9
  replace H := Option.bind_eq_some_iff.mp H
  obtain ⟨t437, A180, H⟩ := H
  replace H : (if (t437.length : Int) > 0 then (impl_FollowsAt.j0 k a2 a3 t425 t428 t431 t434 true a0_0 l0_1 l0_2 a1_0 l1_1 l1_2) else ((impl_without.f k t425 t431).bind fun t440 => (impl_FollowsAt.j0 k a2 a3 t425 t428 t431 t434 (decide ((t440.length : Int) > 0)) a0_0 l0_1 l0_2 a1_0 l1_1 l1_2))) = some r := H
  have A18 := Aside0.mk A180
  clear A180
  by_cases c19 : (t437.length : Int) > 0
  ·rw [if_pos c19] at H
   have c19b0 : decide (0 < (t437.length : Int)) = true := decide_eq_true c19
   have c19b1 : decide (0 < t437.length) = true := decide_eq_true (by omega)
   clear c19
   (first | rw [c19b0] | (simp only [i64_w, i32_w]; rw [c19b0]) | skip)
   have H' := Aside0.mk H
   clear H
   obtain ⟨Ao20, co20, eo20⟩ := Kd.R_slice HO436.out
   subst eo20
   obtain ⟨Ao21, co21, eo21⟩ := Kd.R_slice HO430.out
   subst eo21
   go_wp2_with (first | ((with_reducible refine gate_callee (f := 70) rfl ?_); refine goesL_ (some 28) rfl rfl Try.func70 (by kernel_rfl) rfl #[.slice Ao20 t434.length co20, .slice Ao21 t428.length co21] rfl zG ?_; (with_reducible refine (impl_without.calls k _ _ t434 _ _ t428 t437 _ ?side1 ?side2 ?side3 ?side4 A18.out).mono ?_); (case side1 => repeat (first | exact (Kd.R_reads' HO436.out).2.2 | (with_reducible refine Kd.C_alloc ?_ _) | (with_reducible refine Kd.C_drewN ?_ _) | (with_reducible refine Kd.C_drew ?_))); (case side2 => exact (Kd.R_reads' HO436.out).2.1); (case side3 => repeat (first | exact (Kd.R_reads' HO430.out).2.2 | (with_reducible refine Kd.C_alloc ?_ _) | (with_reducible refine Kd.C_drewN ?_ _) | (with_reducible refine Kd.C_drew ?_))); (case side4 => exact (Kd.R_reads' HO430.out).2.1); rintro e w22 ⟨v438, rfl, ho0, hb⟩; refine ⟨_, rfl, ?_⟩; have n0_ := Aside0.mk (Kd.R_elder' (zR HO427) (Kd.R_base ho0) hb); have n1_ := Aside0.mk (Kd.R_elder' (zR HO430) (Kd.R_base ho0) hb); have n2_ := Aside0.mk (Kd.R_elder' (zR HO433) (Kd.R_base ho0) hb); have n3_ := Aside0.mk (Kd.R_elder' (zR HO436) (Kd.R_base ho0) hb); have n4_ := Aside0.mk (Kd.R_lower (Kd.R_new' (Kd.R_new' (Kd.R_new' (Kd.R_new' ho0 (Kd.R_lt (zR HO427))) (Kd.R_lt (zR HO430))) (Kd.R_lt (zR HO433))) (Kd.R_lt (zR HO436))) (below_size (zB HB))); have n5_ := kB BK423 hb; have n6_ := kB BK424 hb; have n7_ := bS HB hb; clear HO427; clear HO430; clear HO433; clear HO436; clear BK423; clear BK424; clear HB; have HO427 := n0_; have HO430 := n1_; have HO433 := n2_; have HO436 := n3_; have HO439 := n4_; have BK423 := n5_; have BK424 := n6_; have HB := n7_; clear n0_ n1_ n2_ n3_ n4_ n5_ n6_ n7_; (try clear hb); (try clear ho0); obtain ⟨Ao23, co23, eo23⟩ := Kd.R_slice HO439.out; subst eo23))
   go_meet
   case rel => exact ⟨_, (true), zF, H', ⟨by first | omega | exact Nat.le_refl _⟩, ⟨by (with_reducible repeat (first | apply Kd.R_alloc | apply Kd.R_drewN | apply Kd.R_drew)); exact Kd.R_mono HO427.out (fun _ hk => ⟨hk.1.1.1.2, ⟨hk.1.1.2, hk.1.2⟩⟩)⟩, ⟨by (with_reducible repeat (first | apply Kd.R_alloc | apply Kd.R_drewN | apply Kd.R_drew)); exact Kd.R_mono HO430.out (fun _ hk => ⟨hk.1.1.1.2, ⟨hk.1.1.2, hk.1.2⟩⟩)⟩, ⟨by (with_reducible repeat (first | apply Kd.R_alloc | apply Kd.R_drewN | apply Kd.R_drew)); exact Kd.R_mono HO433.out (fun _ hk => ⟨hk.1.1.1.2, ⟨hk.1.1.2, hk.1.2⟩⟩)⟩, ⟨by (with_reducible repeat (first | apply Kd.R_alloc | apply Kd.R_drewN | apply Kd.R_drew)); exact Kd.R_mono HO436.out (fun _ hk => ⟨hk.1.1.1.2, ⟨hk.1.1.2, hk.1.2⟩⟩)⟩, ⟨zK BK423⟩, ⟨zK BK424⟩, ⟨zB HB⟩⟩
  ·rw [if_neg c19] at H
   have c19b0 : decide (0 < (t437.length : Int)) = false := decide_eq_false c19
   have c19b1 : decide (0 < t437.length) = false := decide_eq_false (by omega)
   clear c19
   (first | rw [c19b0] | (simp only [i64_w, i32_w]; rw [c19b0]) | skip)
   replace H := Option.bind_eq_some_iff.mp H
   obtain ⟨t440, A240, H⟩ := H
   replace H : (impl_FollowsAt.j0 k a2 a3 t425 t428 t431 t434 (decide ((t440.length : Int) > 0)) a0_0 l0_1 l0_2 a1_0 l1_1 l1_2) = some r := H
   have A24 := Aside0.mk A240
   clear A240
   have H' := Aside0.mk H
   clear H
   obtain ⟨Ao25, co25, eo25⟩ := Kd.R_slice HO436.out
   subst eo25
   obtain ⟨Ao26, co26, eo26⟩ := Kd.R_slice HO430.out
   subst eo26
   go_wp2_with (first | ((with_reducible refine gate_callee (f := 70) rfl ?_); refine goesL_ (some 28) rfl rfl Try.func70 (by kernel_rfl) rfl #[.slice Ao25 t434.length co25, .slice Ao26 t428.length co26] rfl zG ?_; (with_reducible refine (impl_without.calls k _ _ t434 _ _ t428 t437 _ ?side1 ?side2 ?side3 ?side4 A18.out).mono ?_); (case side1 => repeat (first | exact (Kd.R_reads' HO436.out).2.2 | (with_reducible refine Kd.C_alloc ?_ _) | (with_reducible refine Kd.C_drewN ?_ _) | (with_reducible refine Kd.C_drew ?_))); (case side2 => exact (Kd.R_reads' HO436.out).2.1); (case side3 => repeat (first | exact (Kd.R_reads' HO430.out).2.2 | (with_reducible refine Kd.C_alloc ?_ _) | (with_reducible refine Kd.C_drewN ?_ _) | (with_reducible refine Kd.C_drew ?_))); (case side4 => exact (Kd.R_reads' HO430.out).2.1); rintro e w27 ⟨v438, rfl, ho0, hb⟩; refine ⟨_, rfl, ?_⟩; have n0_ := Aside0.mk (Kd.R_elder' (zR HO427) (Kd.R_base ho0) hb); have n1_ := Aside0.mk (Kd.R_elder' (zR HO430) (Kd.R_base ho0) hb); have n2_ := Aside0.mk (Kd.R_elder' (zR HO433) (Kd.R_base ho0) hb); have n3_ := Aside0.mk (Kd.R_elder' (zR HO436) (Kd.R_base ho0) hb); have n4_ := Aside0.mk (Kd.R_lower (Kd.R_new' (Kd.R_new' (Kd.R_new' (Kd.R_new' ho0 (Kd.R_lt (zR HO427))) (Kd.R_lt (zR HO430))) (Kd.R_lt (zR HO433))) (Kd.R_lt (zR HO436))) (below_size (zB HB))); have n5_ := kB BK423 hb; have n6_ := kB BK424 hb; have n7_ := bS HB hb; clear HO427; clear HO430; clear HO433; clear HO436; clear BK423; clear BK424; clear HB; have HO427 := n0_; have HO430 := n1_; have HO433 := n2_; have HO436 := n3_; have HO439 := n4_; have BK423 := n5_; have BK424 := n6_; have HB := n7_; clear n0_ n1_ n2_ n3_ n4_ n5_ n6_ n7_; (try clear hb); (try clear ho0); obtain ⟨Ao28, co28, eo28⟩ := Kd.R_slice HO439.out; subst eo28; obtain ⟨Ao29, co29, eo29⟩ := Kd.R_slice HO427.out; subst eo29; obtain ⟨Ao30, co30, eo30⟩ := Kd.R_slice HO433.out; subst eo30) | (go_at_call 70; (with_reducible refine (impl_without.calls k _ _ t425 _ _ t431 t440 _ ?side1 ?side2 ?side3 ?side4 A24.out).mono ?_); (case side1 => repeat (first | exact (Kd.R_reads' HO427.out).2.2 | (with_reducible refine Kd.C_alloc ?_ _) | (with_reducible refine Kd.C_drewN ?_ _) | (with_reducible refine Kd.C_drew ?_))); (case side2 => exact (Kd.R_reads' HO427.out).2.1); (case side3 => repeat (first | exact (Kd.R_reads' HO433.out).2.2 | (with_reducible refine Kd.C_alloc ?_ _) | (with_reducible refine Kd.C_drewN ?_ _) | (with_reducible refine Kd.C_drew ?_))); (case side4 => exact (Kd.R_reads' HO433.out).2.1); rintro e w31 ⟨v441, rfl, ho0, hb⟩; have n0_ := Aside0.mk (Kd.R_elder' (zR HO427) (Kd.R_base ho0) hb); have n1_ := Aside0.mk (Kd.R_elder' (zR HO430) (Kd.R_base ho0) hb); have n2_ := Aside0.mk (Kd.R_elder' (zR HO433) (Kd.R_base ho0) hb); have n3_ := Aside0.mk (Kd.R_elder' (zR HO436) (Kd.R_base ho0) hb); have n4_ := Aside0.mk (Kd.R_elder' (zR HO439) (Kd.R_base ho0) hb); have n5_ := Aside0.mk (Kd.R_lower (Kd.R_new' (Kd.R_new' (Kd.R_new' (Kd.R_new' (Kd.R_new' ho0 (Kd.R_lt (zR HO427))) (Kd.R_lt (zR HO430))) (Kd.R_lt (zR HO433))) (Kd.R_lt (zR HO436))) (Kd.R_lt (zR HO439))) (below_size (zB HB))); have n6_ := kB BK423 hb; have n7_ := kB BK424 hb; have n8_ := bS HB hb; clear HO427; clear HO430; clear HO433; clear HO436; clear HO439; clear BK423; clear BK424; clear HB; have HO427 := n0_; have HO430 := n1_; have HO433 := n2_; have HO436 := n3_; have HO439 := n4_; have HO442 := n5_; have BK423 := n6_; have BK424 := n7_; have HB := n8_; clear n0_ n1_ n2_ n3_ n4_ n5_ n6_ n7_ n8_; (try clear hb); (try clear ho0); obtain ⟨Ao32, co32, eo32⟩ := Kd.R_slice HO442.out; subst eo32))
   go_meet
   case rel => exact ⟨_, (decide ((t440.length : Int) > 0)), zF, H', ⟨by first | omega | exact Nat.le_refl _⟩, ⟨by (with_reducible repeat (first | apply Kd.R_alloc | apply Kd.R_drewN | apply Kd.R_drew)); exact Kd.R_mono HO427.out (fun _ hk => ⟨hk.1.1.1.1.2, ⟨hk.1.1.1.2, hk.1.1.2⟩⟩)⟩, ⟨by (with_reducible repeat (first | apply Kd.R_alloc | apply Kd.R_drewN | apply Kd.R_drew)); exact Kd.R_mono HO430.out (fun _ hk => ⟨hk.1.1.1.1.2, ⟨hk.1.1.1.2, hk.1.1.2⟩⟩)⟩, ⟨by (with_reducible repeat (first | apply Kd.R_alloc | apply Kd.R_drewN | apply Kd.R_drew)); exact Kd.R_mono HO433.out (fun _ hk => ⟨hk.1.1.1.1.2, ⟨hk.1.1.1.2, hk.1.1.2⟩⟩)⟩, ⟨by (with_reducible repeat (first | apply Kd.R_alloc | apply Kd.R_drewN | apply Kd.R_drew)); exact Kd.R_mono HO436.out (fun _ hk => ⟨hk.1.1.1.1.2, ⟨hk.1.1.1.2, hk.1.1.2⟩⟩)⟩, ⟨zK BK423⟩, ⟨zK BK424⟩, ⟨zB HB⟩⟩
 case rest =>
  clear HC9
  try clear c1
  try clear p2
  try clear c5
  try clear c6
  try clear c7
  try clear c19
  try clear c19b0
  try clear c19b1
  obtain ⟨kq, x25_8, rfl, HA, HJ8, HO_9, HO_10, HO_11, HO_12, BK423, BK424, HB⟩ := hcut
  cases kq with
  | zero => exact absurd HA.out (by simp [impl_FollowsAt.j0])
  | succ kj8 =>
   have H := HA.out
   clear HA
   simp only [impl_FollowsAt.j0] at H
   by_cases c33 : x25_8 = true
   ·subst c33
    have H1 : (some false) = some r := by rw [if_pos rfl] at H; exact H
    clear H
    have H := H1
    clear H1
    obtain rfl := Option.some.inj H
    go_wp2
    go_ret
    exact ⟨by first | rfl | (simp [errW_none, errW_some] <;> rfl) | (simp [*, errW_none, errW_some] <;> rfl), by repeat (first | (with_reducible first | exact HB.out | apply below_alloc | apply pw_below_drewN | apply below_drew1 | refine below_set ?_ GE423.out | refine below_set ?_ GE424.out) | exact HB.out)⟩
   ·replace c33 := Bool.eq_false_iff.mpr c33
    subst c33
    have H1 : (if ((decide ((t431.length : Int) > 0)) != (decide ((t425.length : Int) > 0))) = true then (impl_FollowsAt.j1 kj8 a2 a3 true a0_0 l0_1 l0_2 a1_0 l1_1 l1_2) else (if (t434.length : Int) = 0 then (impl_FollowsAt.j1 kj8 a2 a3 (decide ((t428.length : Int) > 0)) a0_0 l0_1 l0_2 a1_0 l1_1 l1_2) else (impl_FollowsAt.j1 kj8 a2 a3 false a0_0 l0_1 l0_2 a1_0 l1_1 l1_2))) = some r := by rw [if_neg (show ¬ (false = true) by decide)] at H; exact H
    clear H
    have H := H1
    clear H1
    have HC34 := Aside0.mk H
    clear H
    go_upto_region 5 with (fail)
    go_cut [38] (fun v38 wc => ∃ (kq : Nat) (x38_33 : Bool), v38 = .bool x38_33 ∧ Aside0 (impl_FollowsAt.j1 kq a2 a3 x38_33 a0_0 l0_1 l0_2 a1_0 l1_1 l1_2 = some r) ∧ Aside0 (kq ≤ kj8) ∧ Aside0 (wc.heap[gb423]? = some (.cells #[.int .i64 a0_0, (.slice A0_1 l0_1.length c0_1), (.slice A0_2 l0_2.length c0_2)] 31 (0, 0))) ∧ Aside0 (wc.heap[gb424]? = some (.cells #[.int .i64 a1_0, (.slice A1_1 l1_1.length c1_1), (.slice A1_2 l1_2.length c1_2)] 31 (0, 0))) ∧ Aside0 (Below w.heap.size w wc))
    case first =>
     have H := HC34.out
     clear HC34
     by_cases c35 : ((decide ((t431.length : Int) > 0)) != (decide ((t425.length : Int) > 0))) = true
     ·rw [if_pos c35] at H
      have c35b4 : ¬ (0 < t431.length ↔ 0 < t425.length) := fun q_ => by rw [show decide ((t431.length : Int) > 0) = decide ((t425.length : Int) > 0) from decide_eq_decide.2 (by omega)] at c35; simp at c35
      have c35b0 : ((decide ((t431.length : Int) > 0)) != (decide ((t425.length : Int) > 0))) = true := c35
      (try (have c35b1 : decide ((decide ((t431.length : Int) > 0)) = (decide ((t425.length : Int) > 0))) = false := by simpa using c35))
      (try (have c35b2 : ((decide ((t431.length : Int) > 0)) == (decide ((t425.length : Int) > 0))) = false := by simpa using c35))
      (try (have c35b3 : ¬ ((decide ((t431.length : Int) > 0)) = (decide ((t425.length : Int) > 0))) := by simpa using c35))
      clear c35
      (first | rw [c35b0] | (simp only [i64_w, i32_w]; rw [c35b0]) | skip)
      have H' := Aside0.mk H
      clear H
      obtain ⟨Ao36, co36, eo36⟩ := Kd.R_slice HO_11.out
      subst eo36
      obtain ⟨Ao37, co37, eo37⟩ := Kd.R_slice HO_9.out
      subst eo37
      go_wp2
      go_meet
      case rel => exact ⟨_, (true), zF, H', ⟨by have := HJ8.out; first | omega | exact Nat.le_refl _⟩, ⟨zK BK423⟩, ⟨zK BK424⟩, ⟨zB HB⟩⟩
     ·rw [if_neg c35] at H
      have c35b4 : (0 < t431.length ↔ 0 < t425.length) := by have h_ := decide_eq_decide.1 (show decide ((t431.length : Int) > 0) = decide ((t425.length : Int) > 0) from by simpa [bne] using c35); omega
      have c35b0 : ((decide ((t431.length : Int) > 0)) != (decide ((t425.length : Int) > 0))) = false := by simpa using c35
      (try (have c35b1 : decide ((decide ((t431.length : Int) > 0)) = (decide ((t425.length : Int) > 0))) = true := by simpa using c35))
      (try (have c35b2 : ((decide ((t431.length : Int) > 0)) == (decide ((t425.length : Int) > 0))) = true := by simpa using c35))
      clear c35
      (first | rw [c35b0] | (simp only [i64_w, i32_w]; rw [c35b0]) | skip)
      by_cases c38 : (t434.length : Int) = 0
      ·rw [if_pos c38] at H
       have c38b0 : ((t434.length : Int) == 0) = true := beq_iff_eq.mpr c38
       have c38b1 : ((t434.length : Int) != 0) = false := bne_eq_false_iff_eq.mpr c38
       clear c38
       have H' := Aside0.mk H
       clear H
       obtain ⟨Ao39, co39, eo39⟩ := Kd.R_slice HO_11.out
       subst eo39
       obtain ⟨Ao40, co40, eo40⟩ := Kd.R_slice HO_9.out
       subst eo40
       obtain ⟨Ao41, co41, eo41⟩ := Kd.R_slice HO_12.out
       subst eo41
       obtain ⟨Ao42, co42, eo42⟩ := Kd.R_slice HO_10.out
       subst eo42
       go_wp2
       go_meet
       case rel => exact ⟨_, (decide ((t428.length : Int) > 0)), zF, H', ⟨by have := HJ8.out; first | omega | exact Nat.le_refl _⟩, ⟨zK BK423⟩, ⟨zK BK424⟩, ⟨zB HB⟩⟩
      ·rw [if_neg c38] at H
       have c38b0 : ((t434.length : Int) == 0) = false := beq_eq_false_iff_ne.mpr c38
       have c38b1 : ((t434.length : Int) != 0) = true := bne_iff_ne.mpr c38
       have c38b2 : ¬ (t434 = []) := fun h_ => c38 (by rw [h_]; rfl)
       have H' := Aside0.mk H
       clear H
       obtain ⟨Ao43, co43, eo43⟩ := Kd.R_slice HO_11.out
       subst eo43
       obtain ⟨Ao44, co44, eo44⟩ := Kd.R_slice HO_9.out
       subst eo44
       obtain ⟨Ao45, co45, eo45⟩ := Kd.R_slice HO_12.out
       subst eo45
       go_wp2
       go_meet
       case rel => exact ⟨_, (false), zF, H', ⟨by have := HJ8.out; first | omega | exact Nat.le_refl _⟩, ⟨zK BK423⟩, ⟨zK BK424⟩, ⟨zB HB⟩⟩
    case rest =>
     clear HC34
     try clear c1
     try clear p2
     try clear c3
     try clear c5
     try clear c6
     try clear c7
     try clear c19
     try clear c19b0
     try clear c19b1
     try clear c33
     try clear c35
     try clear c35b0
     try clear c35b1
     try clear c35b2
     try clear c38
     try clear c38b0
     try clear c38b1
     try clear c38b2
     try clear p2
     obtain ⟨kq, x38_33, rfl, HA, HJ33, BK423, BK424, HB⟩ := hcut
     cases kq with
     | zero => exact absurd HA.out (by simp [impl_FollowsAt.j1])
     | succ kj33 =>
      have H := HA.out
      clear HA
      simp only [impl_FollowsAt.j1] at H
      by_cases c46 : x38_33 = true
      ·subst c46
       have H1 : (some false) = some r := by rw [if_pos rfl] at H; exact H
       clear H
       have H := H1
       clear H1
       obtain rfl := Option.some.inj H
       go_wp2
       go_ret
       exact ⟨by first | rfl | (simp [errW_none, errW_some] <;> rfl) | (simp [*, errW_none, errW_some] <;> rfl), by repeat (first | (with_reducible first | exact HB.out | apply below_alloc | apply pw_below_drewN | apply below_drew1 | refine below_set ?_ GE423.out | refine below_set ?_ GE424.out) | exact HB.out)⟩
      ·replace c46 := Bool.eq_false_iff.mpr c46
       subst c46
       have H1 : ((impl_isEnd.f a0_0 l0_1 l0_2 a2).bind fun t443 => (if t443 = true then (some true) else ((impl_isEnd.f a1_0 l1_1 l1_2 a3).bind fun t444 => (some (!t444))))) = some r := by rw [if_neg (show ¬ (false = true) by decide)] at H; exact H
       clear H
       have H := H1
       clear H1
       replace H := Option.bind_eq_some_iff.mp H
       obtain ⟨t443, A470, H⟩ := H
       replace H : (if t443 = true then (some true) else ((impl_isEnd.f a1_0 l1_1 l1_2 a3).bind fun t444 => (some (!t444)))) = some r := H
       have A47 := Aside0.mk A470
       clear A470
       by_cases c48 : t443 = true
       ·subst c48
        have H1 : (some true) = some r := by rw [if_pos rfl] at H; exact H
        clear H
        have H := H1
        clear H1
        obtain rfl := Option.some.inj H
        have hnb49 := NB423_424.out
        have hnc49 := NB424_423.out
        have hcz50_0 := bc0 BK423
        have hcz50_1 := bc1 BK423
        have hcz50_2 := bc2 BK423
        have hfz50_0 := bf BK423 0
        have hfz50_1 := bf BK423 1
        have hfz50_2 := bf BK423 2
        go_wp2_with (first | ((with_reducible refine gate_callee (f := 71) rfl ?_); refine goesL_ (some 58) rfl rfl Try.func71 (by kernel_rfl) rfl #[.agg #[.int .i64 a0_0, .slice A0_1 l0_1.length c0_1, .slice A0_2 l0_2.length c0_2], .int .i64 a2] rfl zG ?_; (with_reducible refine (impl_isEnd.calls a0_0 _ _ l0_1 _ _ l0_2 a2 true _ ?side1 ?side2 ?side3 ?side4 A47.out).mono ?_); (case side1 => exact cS HR0_1 HB); (case side2 => exact HC0_1.out); (case side3 => exact cS HR0_2 HB); (case side4 => exact HC0_2.out); rintro e w51 ⟨rfl, hb⟩; refine ⟨_, rfl, ?_⟩; have n0_ := kB BK423 hb; have n1_ := kB BK424 hb; have n2_ := bS HB hb; clear BK423; clear BK424; clear HB; have BK423 := n0_; have BK424 := n1_; have HB := n2_; clear n0_ n1_ n2_; (try clear hb)))
        go_ret
        exact ⟨by first | rfl | (simp [errW_none, errW_some] <;> rfl) | (simp [*, errW_none, errW_some] <;> rfl), by repeat (first | (with_reducible first | exact HB.out | apply below_alloc | apply pw_below_drewN | apply below_drew1 | refine below_set ?_ GE423.out | refine below_set ?_ GE424.out) | exact HB.out)⟩
       ·replace c48 := Bool.eq_false_iff.mpr c48
        subst c48
        have H1 : ((impl_isEnd.f a1_0 l1_1 l1_2 a3).bind fun t444 => (some (!t444))) = some r := by rw [if_neg (show ¬ (false = true) by decide)] at H; exact H
        clear H
        have H := H1
        clear H1
        replace H := Option.bind_eq_some_iff.mp H
        obtain ⟨t444, A520, H⟩ := H
        replace H : (some (!t444)) = some r := H
        have A52 := Aside0.mk A520
        clear A520
        obtain rfl := Option.some.inj H
        have hnb53 := NB423_424.out
        have hnc53 := NB424_423.out
        have hcz54_0 := bc0 BK423
        have hcz54_1 := bc1 BK423
        have hcz54_2 := bc2 BK423
        have hfz54_0 := bf BK423 0
        have hfz54_1 := bf BK423 1
        have hfz54_2 := bf BK423 2
        go_wp2_with (first | ((with_reducible refine gate_callee (f := 71) rfl ?_); refine goesL_ (some 58) rfl rfl Try.func71 (by kernel_rfl) rfl #[.agg #[.int .i64 a0_0, .slice A0_1 l0_1.length c0_1, .slice A0_2 l0_2.length c0_2], .int .i64 a2] rfl zG ?_; (with_reducible refine (impl_isEnd.calls a0_0 _ _ l0_1 _ _ l0_2 a2 false _ ?side1 ?side2 ?side3 ?side4 A47.out).mono ?_); (case side1 => exact cS HR0_1 HB); (case side2 => exact HC0_1.out); (case side3 => exact cS HR0_2 HB); (case side4 => exact HC0_2.out); rintro e w55 ⟨rfl, hb⟩; refine ⟨_, rfl, ?_⟩; have n0_ := kB BK423 hb; have n1_ := kB BK424 hb; have n2_ := bS HB hb; clear BK423; clear BK424; clear HB; have BK423 := n0_; have BK424 := n1_; have HB := n2_; clear n0_ n1_ n2_; (try clear hb); have hcz56_0 := bc0 BK424; have hcz56_1 := bc1 BK424; have hcz56_2 := bc2 BK424; have hfz56_0 := bf BK424 0; have hfz56_1 := bf BK424 1; have hfz56_2 := bf BK424 2) | (go_at_call 71; (with_reducible refine (impl_isEnd.calls a1_0 _ _ l1_1 _ _ l1_2 a3 t444 _ ?side1 ?side2 ?side3 ?side4 A52.out).mono ?_); (case side1 => exact cS HR1_1 HB); (case side2 => exact HC1_1.out); (case side3 => exact cS HR1_2 HB); (case side4 => exact HC1_2.out); rintro e w57 ⟨rfl, hb⟩; have n0_ := kB BK423 hb; have n1_ := kB BK424 hb; have n2_ := bS HB hb; clear BK423; clear BK424; clear HB; have BK423 := n0_; have BK424 := n1_; have HB := n2_; clear n0_ n1_ n2_; (try clear hb)))
        go_ret
        exact ⟨by first | rfl | (simp [errW_none, errW_some] <;> rfl) | (simp [*, errW_none, errW_some] <;> rfl), by repeat (first | (with_reducible first | exact HB.out | apply below_alloc | apply pw_below_drewN | apply below_drew1 | refine below_set ?_ GE423.out | refine below_set ?_ GE424.out) | exact HB.out)⟩

end Go.Proofs.Ytmenijbpglknbaa.PFnExactFollows
