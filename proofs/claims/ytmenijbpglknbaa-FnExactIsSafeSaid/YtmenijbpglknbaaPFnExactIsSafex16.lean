-- WRITTEN by pp.py, this session's own wrapper around the print; not trusted: Lean checks it
import Derived.Test.YtmenijbpglknbaaPFnExactIsSafex0
import Derived.Test.YtmenijbpglknbaaPFnExactIsSafex13
import Derived.Test.YtmenijbpglknbaaPFnExactIsSafex14
import Derived.Test.YtmenijbpglknbaaPFnExactIsSafex15
namespace Go.Proofs.Ytmenijbpglknbaa.PFnExactIsSafe
open Go.RowKit Go.Proofs.Ytmenijbpglknbaa.Hw Go.Proofs.YtmenijbpglknbaaW.PrintWords Go.Proofs.YtmenijbpglknbaaW.PrintLast Go.Proofs.YtmenijbpglknbaaW.PrintMore
attribute [local go_sem] max2_int min2_int max_two min_two max_three min_three max_four min_four   -- for this text's walks alone
set_option linter.unusedVariables false
set_option linter.unusedSimpArgs false
set_option linter.unusedSectionVars false

/-! ### impl_TroubleAt: function 54 -/
def impl_TroubleAt.j0 : Nat → Int → Int → Bool → Int → List Bool → List (S64) → Int → List Bool → List (S64) → Option (Int)
 | 0, _, _, _, _, _, _, _, _, _ => none
 | k + 1, x2, x3, x9, x459000, x459001, x459002, x460000, x460001, x460002 => if x9 = true then (some 1) else ((impl_NextPairs.f k x459000 x459001 x459002 x460000 x460001 x460002 x2 x3).bind fun t478 => (if (t478.length : Int) = 0 then ((impl_isEnd.f x459000 x459001 x459002 x2).bind fun t481 => (if t481 = true then ((impl_isEnd.f x460000 x460001 x460002 x3).bind fun t482 => (if t482 = true then (some 0) else (some 2))) else (some 2))) else (some 0)))
def impl_TroubleAt.f (k : Nat) (a0_0 : Int) (l0_1 : List Bool) (l0_2 : List (S64)) (a1_0 : Int) (l1_1 : List Bool) (l1_2 : List (S64)) (a2 : Int) (a3 : Int) : Option (Int) := (impl_MovesFrom.f k a0_0 l0_1 l0_2 a2 true).bind fun t460 => ((impl_MovesFrom.f k a1_0 l1_1 l1_2 a3 false).bind fun t463 => ((impl_without.f k t460 t463).bind fun t466 => (if (t466.length : Int) > 0 then (impl_TroubleAt.j0 k a2 a3 true a0_0 l0_1 l0_2 a1_0 l1_1 l1_2) else ((impl_MovesFrom.f k a1_0 l1_1 l1_2 a3 true).bind fun t469 => ((impl_MovesFrom.f k a0_0 l0_1 l0_2 a2 false).bind fun t472 => ((impl_without.f k t469 t472).bind fun t475 => (impl_TroubleAt.j0 k a2 a3 (decide ((t475.length : Int) > 0)) a0_0 l0_1 l0_2 a1_0 l1_1 l1_2)))))))
theorem impl_TroubleAt.mono_l : ∀ k, (∀ y0 y1 y2 y3 y4 y5 y6 y7 y8, LeO (impl_TroubleAt.j0 k y0 y1 y2 y3 y4 y5 y6 y7 y8) (impl_TroubleAt.j0 (k + 1) y0 y1 y2 y3 y4 y5 y6 y7 y8))
 | 0 => fun _ _ _ _ _ _ _ _ _ r h => by simp [impl_TroubleAt.j0] at h
 | k + 1 => by
  have ih0 := impl_TroubleAt.mono_l k
  ·intro y0 y1 y2 y3 y4 y5 y6 y7 y8
   unfold impl_TroubleAt.j0
   repeat' first
   | (with_reducible exact ih0 _ _ _ _ _ _ _ _ _)
   | (with_reducible exact impl_MovesFrom.mono _ _ _ _ _ _)
   | (with_reducible exact impl_NextPairs.mono _ _ _ _ _ _ _ _ _)
   | (with_reducible exact impl_without.mono _ _ _)
   | (with_reducible exact LeO.refl _)
   | (with_reducible exact LeO.none _)
   | (with_reducible refine LeO.ite ?_ ?_)
   | (with_reducible refine LeO.bind ?_ (fun _ => ?_))
   | exact ih0 _ _ _ _ _ _ _ _ _
   | exact impl_MovesFrom.mono _ _ _ _ _ _
   | exact impl_NextPairs.mono _ _ _ _ _ _ _ _ _
   | exact impl_without.mono _ _ _
   | exact LeO.none _
   | refine LeO.ite ?_ ?_
   | refine LeO.bind ?_ (fun _ => ?_)
theorem impl_TroubleAt.mono : ∀ a0 a1 a2 a3 a4 a5 a6 a7 k, LeO (impl_TroubleAt.f k a0 a1 a2 a3 a4 a5 a6 a7) (impl_TroubleAt.f (k + 1) a0 a1 a2 a3 a4 a5 a6 a7) := by
 intro a0 a1 a2 a3 a4 a5 a6 a7 k
 have ih0 := impl_TroubleAt.mono_l k
 unfold impl_TroubleAt.f
 repeat' first
   | (with_reducible exact ih0 _ _ _ _ _ _ _ _ _)
   | (with_reducible exact impl_MovesFrom.mono _ _ _ _ _ _)
   | (with_reducible exact impl_NextPairs.mono _ _ _ _ _ _ _ _ _)
   | (with_reducible exact impl_without.mono _ _ _)
   | (with_reducible exact LeO.refl _)
   | (with_reducible exact LeO.none _)
   | (with_reducible refine LeO.ite ?_ ?_)
   | (with_reducible refine LeO.bind ?_ (fun _ => ?_))
   | exact ih0 _ _ _ _ _ _ _ _ _
   | exact impl_MovesFrom.mono _ _ _ _ _ _
   | exact impl_NextPairs.mono _ _ _ _ _ _ _ _ _
   | exact impl_without.mono _ _ _
   | exact LeO.none _
   | refine LeO.ite ?_ ?_
   | refine LeO.bind ?_ (fun _ => ?_)
def impl_TroubleAt.T1 : Bool × List (List Nat × List Nat) := (true, [([], []), ([], []), ([0, 1], [0, 1]), ([], []), ([], []), ([3, 4, 2], [3, 4]), ([2, 5, 5], [2, 5]), ([6], [6]), ([7], [7]), ([8, 6], [8]), ([9], [9]), ([9], [9]), ([10, 11, 9, 9], [9, 10, 11]), ([9], [9]), ([9], [9]), ([13, 14, 12, 9], [9, 13, 14]), ([12, 15, 15, 9], [9, 12, 15]), ([16, 9], [9, 16]), ([17, 9], [9, 17]), ([9, 18], [9, 18]), ([19, 16], [19])])
def impl_TroubleAt.B1 : List Nat := [0, 0, 3, 0, 0, 31, 63, 127, 255, 511, 1023, 1023, 4095, 1023, 1023, 32767, 65535, 131071, 262143, 524287, 1048575]
theorem impl_TroubleAt.tab1 : rtab .any (opsOf Try.f54 1) = impl_TroubleAt.T1 := by kernel_rfl
theorem impl_TroubleAt.bits1 : waitsOk impl_TroubleAt.T1.2 impl_TroubleAt.B1 = true := by kernel_rfl
set_option maxHeartbeats 8000000 in
set_option maxRecDepth 100000 in
theorem impl_TroubleAt.calls (k : Nat) (a0_0 : Int) (A0_1 : Option Addr) (c0_1 : Nat) (l0_1 : List Bool) (A0_2 : Option Addr) (c0_2 : Nat) (l0_2 : List (S64)) (a1_0 : Int) (A1_1 : Option Addr) (c1_1 : Nat) (l1_1 : List Bool) (A1_2 : Option Addr) (c1_2 : Nat) (l1_2 : List (S64)) (a2 : Int) (a3 : Int) (r : Int) (w : World) (hr0_1 : Kd.C Kd.bool w A0_1 l0_1.length l0_1) (hc0_1 : l0_1.length ≤ c0_1) (hr0_2 : Kd.C k64 w A0_2 l0_2.length l0_2) (hc0_2 : l0_2.length ≤ c0_2) (hr1_1 : Kd.C Kd.bool w A1_1 l1_1.length l1_1) (hc1_1 : l1_1.length ≤ c1_1) (hr1_2 : Kd.C k64 w A1_2 l1_2.length l1_2) (hc1_2 : l1_2.length ≤ c1_2) (h : impl_TroubleAt.f k a0_0 l0_1 l0_2 a1_0 l1_1 l1_2 a2 a3 = some r) :
  Calls Try.prog 54 #[.agg #[.int .i64 a0_0, .slice A0_1 l0_1.length c0_1, .slice A0_2 l0_2.length c0_2], .agg #[.int .i64 a1_0, .slice A1_1 l1_1.length c1_1, .slice A1_2 l1_2.length c1_2], .int .i64 a2, .int .i64 a3] w fun e w' => e = .returned (.int .i64 r) ∧ Below w.heap.size w w' := by
 have hu31 := Try.underlying31
 have HR0_1 := Aside0.mk hr0_1
 have HC0_1 := Aside0.mk hc0_1
 clear hr0_1 hc0_1
 have HR0_2 := Aside0.mk hr0_2
 have HC0_2 := Aside0.mk hc0_2
 clear hr0_2 hc0_2
 have HR1_1 := Aside0.mk hr1_1
 have HC1_1 := Aside0.mk hc1_1
 clear hr1_1 hc1_1
 have HR1_2 := Aside0.mk hr1_2
 have HC1_2 := Aside0.mk hc1_2
 clear hr1_2 hc1_2
 have HB := Aside0.mk (Below.refl w.heap.size w)
 have H : ((impl_MovesFrom.f k a0_0 l0_1 l0_2 a2 true).bind fun t460 => ((impl_MovesFrom.f k a1_0 l1_1 l1_2 a3 false).bind fun t463 => ((impl_without.f k t460 t463).bind fun t466 => (if (t466.length : Int) > 0 then (impl_TroubleAt.j0 k a2 a3 true a0_0 l0_1 l0_2 a1_0 l1_1 l1_2) else ((impl_MovesFrom.f k a1_0 l1_1 l1_2 a3 true).bind fun t469 => ((impl_MovesFrom.f k a0_0 l0_1 l0_2 a2 false).bind fun t472 => ((impl_without.f k t469 t472).bind fun t475 => (impl_TroubleAt.j0 k a2 a3 (decide ((t475.length : Int) > 0)) a0_0 l0_1 l0_2 a1_0 l1_1 l1_2)))))))) = some r := h
 clear h
 have HC5 := Aside0.mk H
 clear H
 go_enter Try.func54, Try.ntmps54
 go_upto_region 1 with (first | ((with_reducible refine gate_dst (N := 4) rfl ?_); (try (refine gate_guard (by rfl) ?_; dsimp only)); refine box_event ?hg (N := 4) ?hd (cs := #[.int .i64 a0_0, .slice A0_1 l0_1.length c0_1, .slice A0_2 l0_2.length c0_2]) (t := 31) ?hr ?_; (case hd => rfl); (case hg => rfl); (case hr => first | (go_simp; done) | (go_simp; rfl)); intro gb458 hg w6 hbox hb; have n0_ := bS HB hb; have n1_ := Aside0.mk (hbox); have n2_ := gS HB hg; have n3_ := gS HB hg; clear HB; have HB := n0_; have BK458 := n1_; have GW458 := n2_; have GE458 := n3_; clear n0_ n1_ n2_ n3_; clear hb hbox hg) | ((with_reducible refine gate_dst (N := 5) rfl ?_); (try (refine gate_guard (by rfl) ?_; dsimp only)); refine box_event ?hg (N := 5) ?hd (cs := #[.int .i64 a1_0, .slice A1_1 l1_1.length c1_1, .slice A1_2 l1_2.length c1_2]) (t := 31) ?hr ?_; (case hd => rfl); (case hg => rfl); (case hr => first | (go_simp; done) | (go_simp; rfl)); intro gb459 hg w7 hbox hb; have n0_ := kB BK458 hb; have n1_ := bS HB hb; have n2_ := Aside0.mk (hbox); have n3_ := gS HB hg; have n4_ := gS HB hg; have n5_ := Aside0.mk ((by rw [hg]; exact Nat.ne_of_lt (blk_lt (g := gb458) (o := .cells #[.int .i64 a0_0, .slice A0_1 l0_1.length c0_1, .slice A0_2 l0_2.length c0_2] 31 (0, 0)) (zK BK458)) : gb458 ≠ gb459)); have n6_ := Aside0.mk ((by rw [hg]; exact Nat.ne_of_gt (blk_lt (g := gb458) (o := .cells #[.int .i64 a0_0, .slice A0_1 l0_1.length c0_1, .slice A0_2 l0_2.length c0_2] 31 (0, 0)) (zK BK458)) : gb459 ≠ gb458)); clear BK458; clear HB; have BK458 := n0_; have HB := n1_; have BK459 := n2_; have GW459 := n3_; have GE459 := n4_; have NB458_459 := n5_; have NB459_458 := n6_; clear n0_ n1_ n2_ n3_ n4_ n5_ n6_; clear hb hbox hg))
 (try simp only [Act.put, List.setIfInBounds_toArray, List.set_cons_zero, List.set_cons_succ])
 go_cut [9] (fun v9 wc => ∃ (kq : Nat) (x9_4 : Bool), v9 = .bool x9_4 ∧ Aside0 (impl_TroubleAt.j0 kq a2 a3 x9_4 a0_0 l0_1 l0_2 a1_0 l1_1 l1_2 = some r) ∧ Aside0 (kq ≤ k) ∧ Aside0 (wc.heap[gb458]? = some (.cells #[.int .i64 a0_0, (.slice A0_1 l0_1.length c0_1), (.slice A0_2 l0_2.length c0_2)] 31 (0, 0))) ∧ Aside0 (wc.heap[gb459]? = some (.cells #[.int .i64 a1_0, (.slice A1_1 l1_1.length c1_1), (.slice A1_2 l1_2.length c1_2)] 31 (0, 0))) ∧ Aside0 (Below w.heap.size w wc))
 case first =>
  have H := HC5.out
  clear HC5
  replace H := Option.bind_eq_some_iff.mp H
  obtain ⟨t460, A80, H⟩ := H
  replace H : ((impl_MovesFrom.f k a1_0 l1_1 l1_2 a3 false).bind fun t463 => ((impl_without.f k t460 t463).bind fun t466 => (if (t466.length : Int) > 0 then (impl_TroubleAt.j0 k a2 a3 true a0_0 l0_1 l0_2 a1_0 l1_1 l1_2) else ((impl_MovesFrom.f k a1_0 l1_1 l1_2 a3 true).bind fun t469 => ((impl_MovesFrom.f k a0_0 l0_1 l0_2 a2 false).bind fun t472 => ((impl_without.f k t469 t472).bind fun t475 => (impl_TroubleAt.j0 k a2 a3 (decide ((t475.length : Int) > 0)) a0_0 l0_1 l0_2 a1_0 l1_1 l1_2))))))) = some r := H
  have A8 := Aside0.mk A80
  clear A80
  replace H := Option.bind_eq_some_iff.mp H
  obtain ⟨t463, A90, H⟩ := H
  replace H : ((impl_without.f k t460 t463).bind fun t466 => (if (t466.length : Int) > 0 then (impl_TroubleAt.j0 k a2 a3 true a0_0 l0_1 l0_2 a1_0 l1_1 l1_2) else ((impl_MovesFrom.f k a1_0 l1_1 l1_2 a3 true).bind fun t469 => ((impl_MovesFrom.f k a0_0 l0_1 l0_2 a2 false).bind fun t472 => ((impl_without.f k t469 t472).bind fun t475 => (impl_TroubleAt.j0 k a2 a3 (decide ((t475.length : Int) > 0)) a0_0 l0_1 l0_2 a1_0 l1_1 l1_2)))))) = some r := H
  have A9 := Aside0.mk A90
  clear A90
  replace H := Option.bind_eq_some_iff.mp H
  obtain ⟨t466, A100, H⟩ := H
  replace H : (if (t466.length : Int) > 0 then (impl_TroubleAt.j0 k a2 a3 true a0_0 l0_1 l0_2 a1_0 l1_1 l1_2) else ((impl_MovesFrom.f k a1_0 l1_1 l1_2 a3 true).bind fun t469 => ((impl_MovesFrom.f k a0_0 l0_1 l0_2 a2 false).bind fun t472 => ((impl_without.f k t469 t472).bind fun t475 => (impl_TroubleAt.j0 k a2 a3 (decide ((t475.length : Int) > 0)) a0_0 l0_1 l0_2 a1_0 l1_1 l1_2))))) = some r := H
  have A10 := Aside0.mk A100
  clear A100
  by_cases c11 : (t466.length : Int) > 0
  ·rw [if_pos c11] at H
   have c11b0 : decide (0 < (t466.length : Int)) = true := decide_eq_true c11
   have c11b1 : decide (0 < t466.length) = true := decide_eq_true (by omega)
   clear c11
   (first | rw [c11b0] | (simp only [i64_w, i32_w]; rw [c11b0]) | skip)
   have H' := Aside0.mk H
   clear H
   try go_wp2
   have n0_ := Aside0.mk (blk_drew BK458.out)
   have n1_ := Aside0.mk (blk_drew BK459.out)
   have n2_ := Aside0.mk (below_drew1 HB.out)
   clear BK458
   clear BK459
   clear HB
   have BK458 := n0_
   have BK459 := n1_
   have HB := n2_
   clear n0_ n1_ n2_
   refine start_ (n := 21) (S := fun w' => w'.cell? ⟨gb458, 0, none⟩ = some (.int .i64 a0_0) ∧ w'.cell? ⟨gb458, 1, none⟩ = some (.slice A0_1 l0_1.length c0_1) ∧ w'.cell? ⟨gb458, 2, none⟩ = some (.slice A0_2 l0_2.length c0_2) ∧ w'.cell? ⟨gb459, 0, none⟩ = some (.int .i64 a1_0) ∧ w'.cell? ⟨gb459, 1, none⟩ = some (.slice A1_1 l1_1.length c1_1) ∧ w'.cell? ⟨gb459, 2, none⟩ = some (.slice A1_2 l1_2.length c1_2)) (ds := []) (bm 21 0) (by kernel_rfl) rfl (bm0 _) ⟨bc0 BK458, bc1 BK458, bc2 BK458, bc0 BK459, bc1 BK459, bc2 BK459⟩ (fun hHeld => ?_); refine with_tabW impl_TroubleAt.tab1 impl_TroubleAt.bits1 (fun HT_ HW_ => ?_)
   generalize w7.drew = w12 at BK458 BK459 HB hHeld ⊢
   refine pU 1 (some 11) (bm 21 2) HT_ rfl rfl ?_
   refine pU 4 (some 14) (bm 21 18) HT_ rfl rfl ?_
   refine tU 0 (some 10) (bm 21 19) HT_ HW_ rfl rfl hHeld ?_
   refine tU 3 (some 13) (bm 21 27) HT_ HW_ rfl rfl hHeld ?_
   refine one_ (i := 2) (N := some 12) (bm 21 31) rfl rfl (one_of HT_.out (by kernel_rfl)) (by decide) (fun K hK => ?_)
   refine goes_ Try.func64 (by kernel_rfl) rfl #[.agg #[.int .i64 a0_0, .slice A0_1 l0_1.length c0_1, .slice A0_2 l0_2.length c0_2], .int .i64 a2, .bool true] (by rfl) rfl rfl zG ?_
   with_reducible refine (impl_MovesFrom.calls k a0_0 _ _ l0_1 _ _ l0_2 a2 true t460 _ ?side1 ?side2 ?side3 ?side4 A8.out).mono ?_
   (case side1 => exact cS HR0_1 HB)
   (case side2 => exact HC0_1.out)
   (case side3 => exact cS HR0_2 HB)
   (case side4 => exact HC0_2.out)
   rintro e w13 ⟨v461, rfl, ho0, hb⟩
   refine ⟨_, rfl, ?_⟩
   have n0_ := Aside0.mk (Kd.R_lower ho0 (below_size (zB HB)))
   have n1_ := kB BK458 hb
   have n2_ := kB BK459 hb
   have n3_ := bS HB hb
   clear BK458
   clear BK459
   clear HB
   have HO462 := n0_
   have BK458 := n1_
   have BK459 := n2_
   have HB := n3_
   clear n0_ n1_ n2_ n3_
   (try clear hb)
   (try clear hb2)
   (try clear hk)
   (try clear hi)
   (try clear ho0)
   refine hK.out _ _ ⟨bc0 BK458, bc1 BK458, bc2 BK458, bc0 BK459, bc1 BK459, bc2 BK459⟩ (fun hHeld => ?_)
   clear hK K
   refine norm_ (a' := ?_) ?_ ?_
   rotate_left
   ·show Act.put _ (some 12) _ = _
    simp only [Act.put, List.setIfInBounds_toArray, List.set_cons_zero, List.set_cons_succ, i64_w, i32_w]
    rfl
   refine one_ (i := 5) (N := some 15) (bm 21 63) rfl rfl (one_of HT_.out (by kernel_rfl)) (by decide) (fun K hK => ?_)
   refine goes_ Try.func64 (by kernel_rfl) rfl #[.agg #[.int .i64 a1_0, .slice A1_1 l1_1.length c1_1, .slice A1_2 l1_2.length c1_2], .int .i64 a3, .bool false] (by rfl) rfl rfl zG ?_
   with_reducible refine (impl_MovesFrom.calls k a1_0 _ _ l1_1 _ _ l1_2 a3 false t463 _ ?side1 ?side2 ?side3 ?side4 A9.out).mono ?_
   (case side1 => exact cS HR1_1 HB)
   (case side2 => exact HC1_1.out)
   (case side3 => exact cS HR1_2 HB)
   (case side4 => exact HC1_2.out)
   rintro e w14 ⟨v464, rfl, ho0, hb⟩
   refine ⟨_, rfl, ?_⟩
   have n0_ := Aside0.mk (Kd.R_elder' (zR HO462) (Kd.R_base ho0) hb)
   have n1_ := Aside0.mk (Kd.R_lower (Kd.R_new' ho0 (Kd.R_lt (zR HO462))) (below_size (zB HB)))
   have n2_ := kB BK458 hb
   have n3_ := kB BK459 hb
   have n4_ := bS HB hb
   clear HO462
   clear BK458
   clear BK459
   clear HB
   have HO462 := n0_
   have HO465 := n1_
   have BK458 := n2_
   have BK459 := n3_
   have HB := n4_
   clear n0_ n1_ n2_ n3_ n4_
   (try clear hb)
   (try clear hb2)
   (try clear hk)
   (try clear hi)
   (try clear ho0)
   obtain ⟨Ao15, co15, eo15⟩ := Kd.R_slice HO462.out
   (first | subst eo15 | (injection eo15 with f1_ f2_ f3_; have f4_ := f1_.symm; have f5_ := f3_.symm; clear f1_ f2_ f3_; subst f4_; subst f5_))
   obtain ⟨Ao16, co16, eo16⟩ := Kd.R_slice HO465.out
   (first | subst eo16 | (injection eo16 with f1_ f2_ f3_; have f4_ := f1_.symm; have f5_ := f3_.symm; clear f1_ f2_ f3_; subst f4_; subst f5_))
   refine hK.out _ _ ⟨bc0 BK458, bc1 BK458, bc2 BK458, bc0 BK459, bc1 BK459, bc2 BK459⟩ (fun hHeld => ?_)
   clear hK K
   refine norm_ (a' := ?_) ?_ ?_
   rotate_left
   ·show Act.put _ (some 15) _ = _
    simp only [Act.put, List.setIfInBounds_toArray, List.set_cons_zero, List.set_cons_succ, i64_w, i32_w]
    rfl
   refine one_ (i := 6) (N := some 16) (bm 21 127) rfl rfl (one_of HT_.out (by kernel_rfl)) (by decide) (fun K hK => ?_)
   refine goes_ Try.func70 (by kernel_rfl) rfl #[.slice Ao15 t460.length co15, .slice Ao16 t463.length co16] (by rfl) rfl rfl zG ?_
   with_reducible refine (impl_without.calls k _ _ t460 _ _ t463 t466 _ ?side1 ?side2 ?side3 ?side4 A10.out).mono ?_
   (case side1 => repeat (first | exact (Kd.R_reads' HO462.out).2.2 | (with_reducible refine Kd.C_alloc ?_ _) | (with_reducible refine Kd.C_drewN ?_ _) | (with_reducible refine Kd.C_drew ?_)))
   (case side2 => exact (Kd.R_reads' HO462.out).2.1)
   (case side3 => repeat (first | exact (Kd.R_reads' HO465.out).2.2 | (with_reducible refine Kd.C_alloc ?_ _) | (with_reducible refine Kd.C_drewN ?_ _) | (with_reducible refine Kd.C_drew ?_)))
   (case side4 => exact (Kd.R_reads' HO465.out).2.1)
   rintro e w17 ⟨v467, rfl, ho0, hb⟩
   refine ⟨_, rfl, ?_⟩
   have n0_ := Aside0.mk (Kd.R_elder' (zR HO462) (Kd.R_base ho0) hb)
   have n1_ := Aside0.mk (Kd.R_elder' (zR HO465) (Kd.R_base ho0) hb)
   have n2_ := Aside0.mk (Kd.R_lower (Kd.R_new' (Kd.R_new' ho0 (Kd.R_lt (zR HO462))) (Kd.R_lt (zR HO465))) (below_size (zB HB)))
   have n3_ := kB BK458 hb
   have n4_ := kB BK459 hb
   have n5_ := bS HB hb
   clear HO462
   clear HO465
   clear BK458
   clear BK459
   clear HB
   have HO462 := n0_
   have HO465 := n1_
   have HO468 := n2_
   have BK458 := n3_
   have BK459 := n4_
   have HB := n5_
   clear n0_ n1_ n2_ n3_ n4_ n5_
   (try clear hb)
   (try clear hb2)
   (try clear hk)
   (try clear hi)
   (try clear ho0)
   obtain ⟨Ao18, co18, eo18⟩ := Kd.R_slice HO468.out
   (first | subst eo18 | (injection eo18 with f1_ f2_ f3_; have f4_ := f1_.symm; have f5_ := f3_.symm; clear f1_ f2_ f3_; subst f4_; subst f5_))
   refine hK.out _ _ ⟨bc0 BK458, bc1 BK458, bc2 BK458, bc0 BK459, bc1 BK459, bc2 BK459⟩ (fun hHeld => ?_)
   clear hK K
   refine norm_ (a' := ?_) ?_ ?_
   rotate_left
   ·show Act.put _ (some 16) _ = _
    simp only [Act.put, List.setIfInBounds_toArray, List.set_cons_zero, List.set_cons_succ, i64_w, i32_w]
    rfl
   refine pU 7 (some 17) (bm 21 255) HT_ rfl rfl ?_
   refine pU 8 (some 18) (bm 21 511) HT_ rfl rfl ?_
   refine pU 9 (some 19) (bm 21 1023) HT_ rfl rfl ?_
   refine pure_ (i := 10) (N := some 20) (v := undef) (a' := ?_) (bm 21 2047) rfl rfl (any_of HT_.out (by kernel_rfl)) (fun _ _ _ h => h) (Or.inr ⟨by rfl, rfl⟩) ?_ ?_
   rotate_left
   ·simp only [Act.put, List.setIfInBounds_toArray, List.set_cons_zero, List.set_cons_succ, i64_w, i32_w]
    rfl
   refine pure_ (i := 11) (N := some 21) (v := undef) (a' := ?_) (bm 21 4095) rfl rfl (any_of HT_.out (by kernel_rfl)) (fun _ _ _ h => h) (Or.inr ⟨by rfl, rfl⟩) ?_ ?_
   rotate_left
   ·simp only [Act.put, List.setIfInBounds_toArray, List.set_cons_zero, List.set_cons_succ, i64_w, i32_w]
    rfl
   refine pure_ (i := 12) (N := some 22) (v := undef) (a' := ?_) (bm 21 8191) rfl rfl (any_of HT_.out (by kernel_rfl)) (fun _ _ _ h => h) (Or.inr ⟨by rfl, rfl⟩) ?_ ?_
   rotate_left
   ·simp only [Act.put, List.setIfInBounds_toArray, List.set_cons_zero, List.set_cons_succ, i64_w, i32_w]
    rfl
   refine pure_ (i := 13) (N := some 23) (v := undef) (a' := ?_) (bm 21 16383) rfl rfl (any_of HT_.out (by kernel_rfl)) (fun _ _ _ h => h) (Or.inr ⟨by rfl, rfl⟩) ?_ ?_
   rotate_left
   ·simp only [Act.put, List.setIfInBounds_toArray, List.set_cons_zero, List.set_cons_succ, i64_w, i32_w]
    rfl
   refine pure_ (i := 14) (N := some 24) (v := undef) (a' := ?_) (bm 21 32767) rfl rfl (any_of HT_.out (by kernel_rfl)) (fun _ _ _ h => h) (Or.inr ⟨by rfl, rfl⟩) ?_ ?_
   rotate_left
   ·simp only [Act.put, List.setIfInBounds_toArray, List.set_cons_zero, List.set_cons_succ, i64_w, i32_w]
    rfl
   refine pure_ (i := 15) (N := some 25) (v := undef) (a' := ?_) (bm 21 65535) rfl rfl (any_of HT_.out (by kernel_rfl)) (fun _ _ _ h => h) (Or.inr ⟨by rfl, rfl⟩) ?_ ?_
   rotate_left
   ·simp only [Act.put, List.setIfInBounds_toArray, List.set_cons_zero, List.set_cons_succ, i64_w, i32_w]
    rfl
   refine pure_ (i := 16) (N := some 26) (v := undef) (a' := ?_) (bm 21 131071) rfl rfl (any_of HT_.out (by kernel_rfl)) (fun _ _ _ h => h) (Or.inr ⟨by rfl, rfl⟩) ?_ ?_
   rotate_left
   ·simp only [Act.put, List.setIfInBounds_toArray, List.set_cons_zero, List.set_cons_succ, i64_w, i32_w]
    rfl
   refine pure_ (i := 17) (N := some 27) (v := undef) (a' := ?_) (bm 21 262143) rfl rfl (any_of HT_.out (by kernel_rfl)) (fun _ _ _ h => h) (Or.inr ⟨by rfl, rfl⟩) ?_ ?_
   rotate_left
   ·simp only [Act.put, List.setIfInBounds_toArray, List.set_cons_zero, List.set_cons_succ, i64_w, i32_w]
    rfl
   refine pure_ (i := 18) (N := some 28) (v := undef) (a' := ?_) (bm 21 524287) rfl rfl (any_of HT_.out (by kernel_rfl)) (fun _ _ _ h => h) (Or.inr ⟨by rfl, rfl⟩) ?_ ?_
   rotate_left
   ·simp only [Act.put, List.setIfInBounds_toArray, List.set_cons_zero, List.set_cons_succ, i64_w, i32_w]
    rfl
   refine pU 19 (some 29) (bm 21 1048575) HT_ rfl rfl ?_
   refine pU 20 (some 9) (bm 21 2097151) HT_ rfl rfl ?_
   refine done_ (done_of HT_.out (by kernel_rfl)) ?_
   try clear hHeld
   try go_wp2
   go_meet
   case rel => exact ⟨_, (true), zF, H', ⟨by first | omega | exact Nat.le_refl _⟩, ⟨zK BK458⟩, ⟨zK BK459⟩, ⟨zB HB⟩⟩
  ·rw [if_neg c11] at H
   have c11b0 : decide (0 < (t466.length : Int)) = false := decide_eq_false c11
   have c11b1 : decide (0 < t466.length) = false := decide_eq_false (by omega)
   clear c11
   (first | rw [c11b0] | (simp only [i64_w, i32_w]; rw [c11b0]) | skip)
   replace H := Option.bind_eq_some_iff.mp H
   obtain ⟨t469, A190, H⟩ := H
   replace H : ((impl_MovesFrom.f k a0_0 l0_1 l0_2 a2 false).bind fun t472 => ((impl_without.f k t469 t472).bind fun t475 => (impl_TroubleAt.j0 k a2 a3 (decide ((t475.length : Int) > 0)) a0_0 l0_1 l0_2 a1_0 l1_1 l1_2))) = some r := H
   have A19 := Aside0.mk A190
   clear A190
   replace H := Option.bind_eq_some_iff.mp H
   obtain ⟨t472, A200, H⟩ := H
   replace H : ((impl_without.f k t469 t472).bind fun t475 => (impl_TroubleAt.j0 k a2 a3 (decide ((t475.length : Int) > 0)) a0_0 l0_1 l0_2 a1_0 l1_1 l1_2)) = some r := H
   have A20 := Aside0.mk A200
   clear A200
   replace H := Option.bind_eq_some_iff.mp H
   obtain ⟨t475, A210, H⟩ := H
   replace H : (impl_TroubleAt.j0 k a2 a3 (decide ((t475.length : Int) > 0)) a0_0 l0_1 l0_2 a1_0 l1_1 l1_2) = some r := H
   have A21 := Aside0.mk A210
   clear A210
   have H' := Aside0.mk H
   clear H
   try go_wp2
   have n0_ := Aside0.mk (blk_drew BK458.out)
   have n1_ := Aside0.mk (blk_drew BK459.out)
   have n2_ := Aside0.mk (below_drew1 HB.out)
   clear BK458
   clear BK459
   clear HB
   have BK458 := n0_
   have BK459 := n1_
   have HB := n2_
   clear n0_ n1_ n2_
   refine start_ (n := 21) (S := fun w' => w'.cell? ⟨gb458, 0, none⟩ = some (.int .i64 a0_0) ∧ w'.cell? ⟨gb458, 1, none⟩ = some (.slice A0_1 l0_1.length c0_1) ∧ w'.cell? ⟨gb458, 2, none⟩ = some (.slice A0_2 l0_2.length c0_2) ∧ w'.cell? ⟨gb459, 0, none⟩ = some (.int .i64 a1_0) ∧ w'.cell? ⟨gb459, 1, none⟩ = some (.slice A1_1 l1_1.length c1_1) ∧ w'.cell? ⟨gb459, 2, none⟩ = some (.slice A1_2 l1_2.length c1_2)) (ds := []) (bm 21 0) (by kernel_rfl) rfl (bm0 _) ⟨bc0 BK458, bc1 BK458, bc2 BK458, bc0 BK459, bc1 BK459, bc2 BK459⟩ (fun hHeld => ?_); refine with_tabW impl_TroubleAt.tab1 impl_TroubleAt.bits1 (fun HT_ HW_ => ?_)
   generalize w7.drew = w22 at BK458 BK459 HB hHeld ⊢
   refine pU 1 (some 11) (bm 21 2) HT_ rfl rfl ?_
   refine pU 4 (some 14) (bm 21 18) HT_ rfl rfl ?_
   refine tU 0 (some 10) (bm 21 19) HT_ HW_ rfl rfl hHeld ?_
   refine tU 3 (some 13) (bm 21 27) HT_ HW_ rfl rfl hHeld ?_
   refine one_ (i := 2) (N := some 12) (bm 21 31) rfl rfl (one_of HT_.out (by kernel_rfl)) (by decide) (fun K hK => ?_)
   refine goes_ Try.func64 (by kernel_rfl) rfl #[.agg #[.int .i64 a0_0, .slice A0_1 l0_1.length c0_1, .slice A0_2 l0_2.length c0_2], .int .i64 a2, .bool true] (by rfl) rfl rfl zG ?_
   with_reducible refine (impl_MovesFrom.calls k a0_0 _ _ l0_1 _ _ l0_2 a2 true t460 _ ?side1 ?side2 ?side3 ?side4 A8.out).mono ?_
   (case side1 => exact cS HR0_1 HB)
   (case side2 => exact HC0_1.out)
   (case side3 => exact cS HR0_2 HB)
   (case side4 => exact HC0_2.out)
   rintro e w23 ⟨v461, rfl, ho0, hb⟩
   refine ⟨_, rfl, ?_⟩
   have n0_ := Aside0.mk (Kd.R_lower ho0 (below_size (zB HB)))
   have n1_ := kB BK458 hb
   have n2_ := kB BK459 hb
   have n3_ := bS HB hb
   clear BK458
   clear BK459
   clear HB
   have HO462 := n0_
   have BK458 := n1_
   have BK459 := n2_
   have HB := n3_
   clear n0_ n1_ n2_ n3_
   (try clear hb)
   (try clear hb2)
   (try clear hk)
   (try clear hi)
   (try clear ho0)
   refine hK.out _ _ ⟨bc0 BK458, bc1 BK458, bc2 BK458, bc0 BK459, bc1 BK459, bc2 BK459⟩ (fun hHeld => ?_)
   clear hK K
   refine norm_ (a' := ?_) ?_ ?_
   rotate_left
   ·show Act.put _ (some 12) _ = _
    simp only [Act.put, List.setIfInBounds_toArray, List.set_cons_zero, List.set_cons_succ, i64_w, i32_w]
    rfl
   refine one_ (i := 5) (N := some 15) (bm 21 63) rfl rfl (one_of HT_.out (by kernel_rfl)) (by decide) (fun K hK => ?_)
   refine goes_ Try.func64 (by kernel_rfl) rfl #[.agg #[.int .i64 a1_0, .slice A1_1 l1_1.length c1_1, .slice A1_2 l1_2.length c1_2], .int .i64 a3, .bool false] (by rfl) rfl rfl zG ?_
   with_reducible refine (impl_MovesFrom.calls k a1_0 _ _ l1_1 _ _ l1_2 a3 false t463 _ ?side1 ?side2 ?side3 ?side4 A9.out).mono ?_
   (case side1 => exact cS HR1_1 HB)
   (case side2 => exact HC1_1.out)
   (case side3 => exact cS HR1_2 HB)
   (case side4 => exact HC1_2.out)
   rintro e w24 ⟨v464, rfl, ho0, hb⟩
   refine ⟨_, rfl, ?_⟩
   have n0_ := Aside0.mk (Kd.R_elder' (zR HO462) (Kd.R_base ho0) hb)
   have n1_ := Aside0.mk (Kd.R_lower (Kd.R_new' ho0 (Kd.R_lt (zR HO462))) (below_size (zB HB)))
   have n2_ := kB BK458 hb
   have n3_ := kB BK459 hb
   have n4_ := bS HB hb
   clear HO462
   clear BK458
   clear BK459
   clear HB
   have HO462 := n0_
   have HO465 := n1_
   have BK458 := n2_
   have BK459 := n3_
   have HB := n4_
   clear n0_ n1_ n2_ n3_ n4_
   (try clear hb)
   (try clear hb2)
   (try clear hk)
   (try clear hi)
   (try clear ho0)
   obtain ⟨Ao25, co25, eo25⟩ := Kd.R_slice HO462.out
   (first | subst eo25 | (injection eo25 with f1_ f2_ f3_; have f4_ := f1_.symm; have f5_ := f3_.symm; clear f1_ f2_ f3_; subst f4_; subst f5_))
   obtain ⟨Ao26, co26, eo26⟩ := Kd.R_slice HO465.out
   (first | subst eo26 | (injection eo26 with f1_ f2_ f3_; have f4_ := f1_.symm; have f5_ := f3_.symm; clear f1_ f2_ f3_; subst f4_; subst f5_))
   refine hK.out _ _ ⟨bc0 BK458, bc1 BK458, bc2 BK458, bc0 BK459, bc1 BK459, bc2 BK459⟩ (fun hHeld => ?_)
   clear hK K
   refine norm_ (a' := ?_) ?_ ?_
   rotate_left
   ·show Act.put _ (some 15) _ = _
    simp only [Act.put, List.setIfInBounds_toArray, List.set_cons_zero, List.set_cons_succ, i64_w, i32_w]
    rfl
   refine one_ (i := 6) (N := some 16) (bm 21 127) rfl rfl (one_of HT_.out (by kernel_rfl)) (by decide) (fun K hK => ?_)
   refine goes_ Try.func70 (by kernel_rfl) rfl #[.slice Ao25 t460.length co25, .slice Ao26 t463.length co26] (by rfl) rfl rfl zG ?_
   with_reducible refine (impl_without.calls k _ _ t460 _ _ t463 t466 _ ?side1 ?side2 ?side3 ?side4 A10.out).mono ?_
   (case side1 => repeat (first | exact (Kd.R_reads' HO462.out).2.2 | (with_reducible refine Kd.C_alloc ?_ _) | (with_reducible refine Kd.C_drewN ?_ _) | (with_reducible refine Kd.C_drew ?_)))
   (case side2 => exact (Kd.R_reads' HO462.out).2.1)
   (case side3 => repeat (first | exact (Kd.R_reads' HO465.out).2.2 | (with_reducible refine Kd.C_alloc ?_ _) | (with_reducible refine Kd.C_drewN ?_ _) | (with_reducible refine Kd.C_drew ?_)))
   (case side4 => exact (Kd.R_reads' HO465.out).2.1)
   rintro e w27 ⟨v467, rfl, ho0, hb⟩
   refine ⟨_, rfl, ?_⟩
   have n0_ := Aside0.mk (Kd.R_elder' (zR HO462) (Kd.R_base ho0) hb)
   have n1_ := Aside0.mk (Kd.R_elder' (zR HO465) (Kd.R_base ho0) hb)
   have n2_ := Aside0.mk (Kd.R_lower (Kd.R_new' (Kd.R_new' ho0 (Kd.R_lt (zR HO462))) (Kd.R_lt (zR HO465))) (below_size (zB HB)))
   have n3_ := kB BK458 hb
   have n4_ := kB BK459 hb
   have n5_ := bS HB hb
   clear HO462
   clear HO465
   clear BK458
   clear BK459
   clear HB
   have HO462 := n0_
   have HO465 := n1_
   have HO468 := n2_
   have BK458 := n3_
   have BK459 := n4_
   have HB := n5_
   clear n0_ n1_ n2_ n3_ n4_ n5_
   (try clear hb)
   (try clear hb2)
   (try clear hk)
   (try clear hi)
   (try clear ho0)
   obtain ⟨Ao28, co28, eo28⟩ := Kd.R_slice HO468.out
   (first | subst eo28 | (injection eo28 with f1_ f2_ f3_; have f4_ := f1_.symm; have f5_ := f3_.symm; clear f1_ f2_ f3_; subst f4_; subst f5_))
   refine hK.out _ _ ⟨bc0 BK458, bc1 BK458, bc2 BK458, bc0 BK459, bc1 BK459, bc2 BK459⟩ (fun hHeld => ?_)
   clear hK K
   refine norm_ (a' := ?_) ?_ ?_
   rotate_left
   ·show Act.put _ (some 16) _ = _
    simp only [Act.put, List.setIfInBounds_toArray, List.set_cons_zero, List.set_cons_succ, i64_w, i32_w]
    rfl
   refine pU 7 (some 17) (bm 21 255) HT_ rfl rfl ?_
   refine pU 8 (some 18) (bm 21 511) HT_ rfl rfl ?_
   refine pU 9 (some 19) (bm 21 1023) HT_ rfl rfl ?_
   refine pU 11 (some 21) (bm 21 3071) HT_ rfl rfl ?_
   refine pU 14 (some 24) (bm 21 19455) HT_ rfl rfl ?_
   refine tU 10 (some 20) (bm 21 20479) HT_ HW_ rfl rfl hHeld ?_
   refine tU 13 (some 23) (bm 21 28671) HT_ HW_ rfl rfl hHeld ?_
   refine one_ (i := 12) (N := some 22) (bm 21 32767) rfl rfl (one_of HT_.out (by kernel_rfl)) (by decide) (fun K hK => ?_)
   refine goes_ Try.func64 (by kernel_rfl) rfl #[.agg #[.int .i64 a1_0, .slice A1_1 l1_1.length c1_1, .slice A1_2 l1_2.length c1_2], .int .i64 a3, .bool true] (by rfl) rfl rfl zG ?_
   with_reducible refine (impl_MovesFrom.calls k a1_0 _ _ l1_1 _ _ l1_2 a3 true t469 _ ?side1 ?side2 ?side3 ?side4 A19.out).mono ?_
   (case side1 => exact cS HR1_1 HB)
   (case side2 => exact HC1_1.out)
   (case side3 => exact cS HR1_2 HB)
   (case side4 => exact HC1_2.out)
   rintro e w29 ⟨v470, rfl, ho0, hb⟩
   refine ⟨_, rfl, ?_⟩
   have n0_ := Aside0.mk (Kd.R_elder' (zR HO462) (Kd.R_base ho0) hb)
   have n1_ := Aside0.mk (Kd.R_elder' (zR HO465) (Kd.R_base ho0) hb)
   have n2_ := Aside0.mk (Kd.R_elder' (zR HO468) (Kd.R_base ho0) hb)
   have n3_ := Aside0.mk (Kd.R_lower (Kd.R_new' (Kd.R_new' (Kd.R_new' ho0 (Kd.R_lt (zR HO462))) (Kd.R_lt (zR HO465))) (Kd.R_lt (zR HO468))) (below_size (zB HB)))
   have n4_ := kB BK458 hb
   have n5_ := kB BK459 hb
   have n6_ := bS HB hb
   clear HO462
   clear HO465
   clear HO468
   clear BK458
   clear BK459
   clear HB
   have HO462 := n0_
   have HO465 := n1_
   have HO468 := n2_
   have HO471 := n3_
   have BK458 := n4_
   have BK459 := n5_
   have HB := n6_
   clear n0_ n1_ n2_ n3_ n4_ n5_ n6_
   (try clear hb)
   (try clear hb2)
   (try clear hk)
   (try clear hi)
   (try clear ho0)
   refine hK.out _ _ ⟨bc0 BK458, bc1 BK458, bc2 BK458, bc0 BK459, bc1 BK459, bc2 BK459⟩ (fun hHeld => ?_)
   clear hK K
   refine norm_ (a' := ?_) ?_ ?_
   rotate_left
   ·show Act.put _ (some 22) _ = _
    simp only [Act.put, List.setIfInBounds_toArray, List.set_cons_zero, List.set_cons_succ, i64_w, i32_w]
    rfl
   refine one_ (i := 15) (N := some 25) (bm 21 65535) rfl rfl (one_of HT_.out (by kernel_rfl)) (by decide) (fun K hK => ?_)
   refine goes_ Try.func64 (by kernel_rfl) rfl #[.agg #[.int .i64 a0_0, .slice A0_1 l0_1.length c0_1, .slice A0_2 l0_2.length c0_2], .int .i64 a2, .bool false] (by rfl) rfl rfl zG ?_
   with_reducible refine (impl_MovesFrom.calls k a0_0 _ _ l0_1 _ _ l0_2 a2 false t472 _ ?side1 ?side2 ?side3 ?side4 A20.out).mono ?_
   (case side1 => exact cS HR0_1 HB)
   (case side2 => exact HC0_1.out)
   (case side3 => exact cS HR0_2 HB)
   (case side4 => exact HC0_2.out)
   rintro e w30 ⟨v473, rfl, ho0, hb⟩
   refine ⟨_, rfl, ?_⟩
   have n0_ := Aside0.mk (Kd.R_elder' (zR HO462) (Kd.R_base ho0) hb)
   have n1_ := Aside0.mk (Kd.R_elder' (zR HO465) (Kd.R_base ho0) hb)
   have n2_ := Aside0.mk (Kd.R_elder' (zR HO468) (Kd.R_base ho0) hb)
   have n3_ := Aside0.mk (Kd.R_elder' (zR HO471) (Kd.R_base ho0) hb)
   have n4_ := Aside0.mk (Kd.R_lower (Kd.R_new' (Kd.R_new' (Kd.R_new' (Kd.R_new' ho0 (Kd.R_lt (zR HO462))) (Kd.R_lt (zR HO465))) (Kd.R_lt (zR HO468))) (Kd.R_lt (zR HO471))) (below_size (zB HB)))
   have n5_ := kB BK458 hb
   have n6_ := kB BK459 hb
   have n7_ := bS HB hb
   clear HO462
   clear HO465
   clear HO468
   clear HO471
   clear BK458
   clear BK459
   clear HB
   have HO462 := n0_
   have HO465 := n1_
   have HO468 := n2_
   have HO471 := n3_
   have HO474 := n4_
   have BK458 := n5_
   have BK459 := n6_
   have HB := n7_
   clear n0_ n1_ n2_ n3_ n4_ n5_ n6_ n7_
   (try clear hb)
   (try clear hb2)
   (try clear hk)
   (try clear hi)
   (try clear ho0)
   obtain ⟨Ao31, co31, eo31⟩ := Kd.R_slice HO471.out
   (first | subst eo31 | (injection eo31 with f1_ f2_ f3_; have f4_ := f1_.symm; have f5_ := f3_.symm; clear f1_ f2_ f3_; subst f4_; subst f5_))
   obtain ⟨Ao32, co32, eo32⟩ := Kd.R_slice HO474.out
   (first | subst eo32 | (injection eo32 with f1_ f2_ f3_; have f4_ := f1_.symm; have f5_ := f3_.symm; clear f1_ f2_ f3_; subst f4_; subst f5_))
   refine hK.out _ _ ⟨bc0 BK458, bc1 BK458, bc2 BK458, bc0 BK459, bc1 BK459, bc2 BK459⟩ (fun hHeld => ?_)
   clear hK K
   refine norm_ (a' := ?_) ?_ ?_
   rotate_left
   ·show Act.put _ (some 25) _ = _
    simp only [Act.put, List.setIfInBounds_toArray, List.set_cons_zero, List.set_cons_succ, i64_w, i32_w]
    rfl
   refine one_ (i := 16) (N := some 26) (bm 21 131071) rfl rfl (one_of HT_.out (by kernel_rfl)) (by decide) (fun K hK => ?_)
   refine goes_ Try.func70 (by kernel_rfl) rfl #[.slice Ao31 t469.length co31, .slice Ao32 t472.length co32] (by rfl) rfl rfl zG ?_
   with_reducible refine (impl_without.calls k _ _ t469 _ _ t472 t475 _ ?side1 ?side2 ?side3 ?side4 A21.out).mono ?_
   (case side1 => repeat (first | exact (Kd.R_reads' HO471.out).2.2 | (with_reducible refine Kd.C_alloc ?_ _) | (with_reducible refine Kd.C_drewN ?_ _) | (with_reducible refine Kd.C_drew ?_)))
   (case side2 => exact (Kd.R_reads' HO471.out).2.1)
   (case side3 => repeat (first | exact (Kd.R_reads' HO474.out).2.2 | (with_reducible refine Kd.C_alloc ?_ _) | (with_reducible refine Kd.C_drewN ?_ _) | (with_reducible refine Kd.C_drew ?_)))
   (case side4 => exact (Kd.R_reads' HO474.out).2.1)
   rintro e w33 ⟨v476, rfl, ho0, hb⟩
   refine ⟨_, rfl, ?_⟩
   have n0_ := Aside0.mk (Kd.R_elder' (zR HO462) (Kd.R_base ho0) hb)
   have n1_ := Aside0.mk (Kd.R_elder' (zR HO465) (Kd.R_base ho0) hb)
   have n2_ := Aside0.mk (Kd.R_elder' (zR HO468) (Kd.R_base ho0) hb)
   have n3_ := Aside0.mk (Kd.R_elder' (zR HO471) (Kd.R_base ho0) hb)
   have n4_ := Aside0.mk (Kd.R_elder' (zR HO474) (Kd.R_base ho0) hb)
   have n5_ := Aside0.mk (Kd.R_lower (Kd.R_new' (Kd.R_new' (Kd.R_new' (Kd.R_new' (Kd.R_new' ho0 (Kd.R_lt (zR HO462))) (Kd.R_lt (zR HO465))) (Kd.R_lt (zR HO468))) (Kd.R_lt (zR HO471))) (Kd.R_lt (zR HO474))) (below_size (zB HB)))
   have n6_ := kB BK458 hb
   have n7_ := kB BK459 hb
   have n8_ := bS HB hb
   clear HO462
   clear HO465
   clear HO468
   clear HO471
   clear HO474
   clear BK458
   clear BK459
   clear HB
   have HO462 := n0_
   have HO465 := n1_
   have HO468 := n2_
   have HO471 := n3_
   have HO474 := n4_
   have HO477 := n5_
   have BK458 := n6_
   have BK459 := n7_
   have HB := n8_
   clear n0_ n1_ n2_ n3_ n4_ n5_ n6_ n7_ n8_
   (try clear hb)
   (try clear hb2)
   (try clear hk)
   (try clear hi)
   (try clear ho0)
   obtain ⟨Ao34, co34, eo34⟩ := Kd.R_slice HO477.out
   (first | subst eo34 | (injection eo34 with f1_ f2_ f3_; have f4_ := f1_.symm; have f5_ := f3_.symm; clear f1_ f2_ f3_; subst f4_; subst f5_))
   refine hK.out _ _ ⟨bc0 BK458, bc1 BK458, bc2 BK458, bc0 BK459, bc1 BK459, bc2 BK459⟩ (fun hHeld => ?_)
   clear hK K
   refine norm_ (a' := ?_) ?_ ?_
   rotate_left
   ·show Act.put _ (some 26) _ = _
    simp only [Act.put, List.setIfInBounds_toArray, List.set_cons_zero, List.set_cons_succ, i64_w, i32_w]
    rfl
   refine pU 17 (some 27) (bm 21 262143) HT_ rfl rfl ?_
   refine pU 18 (some 28) (bm 21 524287) HT_ rfl rfl ?_
   refine pU 19 (some 29) (bm 21 1048575) HT_ rfl rfl ?_
   refine pU 20 (some 9) (bm 21 2097151) HT_ rfl rfl ?_
   refine done_ (done_of HT_.out (by kernel_rfl)) ?_
   try clear hHeld
   try go_wp2
   go_meet
   case rel => exact ⟨_, (decide ((t475.length : Int) > 0)), zF, H', ⟨by first | omega | exact Nat.le_refl _⟩, ⟨zK BK458⟩, ⟨zK BK459⟩, ⟨zB HB⟩⟩
 case rest =>
  clear HC5
  try clear c1
  try clear p2
  try clear c6
  try clear c7
  try clear c11
  try clear c11b0
  try clear c11b1
  obtain ⟨kq, x9_4, rfl, HA, HJ4, BK458, BK459, HB⟩ := hcut
  cases kq with
  | zero => exact absurd HA.out (by simp [impl_TroubleAt.j0])
  | succ kj4 =>
   have H := HA.out
   clear HA
   simp only [impl_TroubleAt.j0] at H
   by_cases c35 : x9_4 = true
   ·subst c35
    have H1 : (some 1) = some r := by rw [if_pos rfl] at H; exact H
    clear H
    have H := H1
    clear H1
    obtain rfl := Option.some.inj H
    go_wp2
    go_ret
    exact ⟨by first | rfl | (simp [errW_none, errW_some] <;> rfl) | (simp [*, errW_none, errW_some] <;> rfl), by repeat (first | (with_reducible first | exact HB.out | apply below_alloc | apply pw_below_drewN | apply below_drew1 | refine below_set ?_ GE458.out | refine below_set ?_ GE459.out) | exact HB.out)⟩
   ·replace c35 := Bool.eq_false_iff.mpr c35
    subst c35
    have H1 : ((impl_NextPairs.f kj4 a0_0 l0_1 l0_2 a1_0 l1_1 l1_2 a2 a3).bind fun t478 => (if (t478.length : Int) = 0 then ((impl_isEnd.f a0_0 l0_1 l0_2 a2).bind fun t481 => (if t481 = true then ((impl_isEnd.f a1_0 l1_1 l1_2 a3).bind fun t482 => (if t482 = true then (some 0) else (some 2))) else (some 2))) else (some 0))) = some r := by rw [if_neg (show ¬ (false = true) by decide)] at H; exact H
    clear H
    have H := H1
    clear H1
    replace H := Option.bind_eq_some_iff.mp H
    obtain ⟨t478, A360, H⟩ := H
    replace H : (if (t478.length : Int) = 0 then ((impl_isEnd.f a0_0 l0_1 l0_2 a2).bind fun t481 => (if t481 = true then ((impl_isEnd.f a1_0 l1_1 l1_2 a3).bind fun t482 => (if t482 = true then (some 0) else (some 2))) else (some 2))) else (some 0)) = some r := H
    have A36 := Aside0.mk A360
    clear A360
    by_cases c37 : (t478.length : Int) = 0
    ·rw [if_pos c37] at H
     have c37b0 : ((t478.length : Int) == 0) = true := beq_iff_eq.mpr c37
     have c37b1 : ((t478.length : Int) != 0) = false := bne_eq_false_iff_eq.mpr c37
     clear c37
     replace H := Option.bind_eq_some_iff.mp H
     obtain ⟨t481, A380, H⟩ := H
     replace H : (if t481 = true then ((impl_isEnd.f a1_0 l1_1 l1_2 a3).bind fun t482 => (if t482 = true then (some 0) else (some 2))) else (some 2)) = some r := H
     have A38 := Aside0.mk A380
     clear A380
     by_cases c39 : t481 = true
     ·subst c39
      have H1 : ((impl_isEnd.f a1_0 l1_1 l1_2 a3).bind fun t482 => (if t482 = true then (some 0) else (some 2))) = some r := by rw [if_pos rfl] at H; exact H
      clear H
      have H := H1
      clear H1
      replace H := Option.bind_eq_some_iff.mp H
      obtain ⟨t482, A400, H⟩ := H
      replace H : (if t482 = true then (some 0) else (some 2)) = some r := H
      have A40 := Aside0.mk A400
      clear A400
      by_cases c41 : t482 = true
      ·subst c41
       have H1 : (some 0) = some r := by rw [if_pos rfl] at H; exact H
       clear H
       have H := H1
       clear H1
       obtain rfl := Option.some.inj H
       have hnb42 := NB458_459.out
       have hnc42 := NB459_458.out
       have hcz43_0 := bc0 BK458
       have hcz43_1 := bc1 BK458
       have hcz43_2 := bc2 BK458
       have hfz43_0 := bf BK458 0
       have hfz43_1 := bf BK458 1
       have hfz43_2 := bf BK458 2
       have hcz44_0 := bc0 BK459
       have hcz44_1 := bc1 BK459
       have hcz44_2 := bc2 BK459
       have hfz44_0 := bf BK459 0
       have hfz44_1 := bf BK459 1
       have hfz44_2 := bf BK459 2
       go_wp2_with (first | ((with_reducible refine gate_callee (f := 44) rfl ?_); refine goesL_ (some 35) rfl rfl Try.func44 (by kernel_rfl) rfl #[.agg #[.int .i64 a0_0, .slice A0_1 l0_1.length c0_1, .slice A0_2 l0_2.length c0_2], .agg #[.int .i64 a1_0, .slice A1_1 l1_1.length c1_1, .slice A1_2 l1_2.length c1_2], .int .i64 a2, .int .i64 a3] rfl zG ?_; (with_reducible refine (impl_NextPairs.calls kj4 a0_0 _ _ l0_1 _ _ l0_2 a1_0 _ _ l1_1 _ _ l1_2 a2 a3 t478 _ ?side1 ?side2 ?side3 ?side4 ?side5 ?side6 ?side7 ?side8 A36.out).mono ?_); (case side1 => exact cS HR0_1 HB); (case side2 => exact HC0_1.out); (case side3 => exact cS HR0_2 HB); (case side4 => exact HC0_2.out); (case side5 => exact cS HR1_1 HB); (case side6 => exact HC1_1.out); (case side7 => exact cS HR1_2 HB); (case side8 => exact HC1_2.out); rintro e w45 ⟨v479, rfl, ho0, hb⟩; refine ⟨_, rfl, ?_⟩; have n0_ := Aside0.mk (Kd.S_lower ho0 (below_size (zB HB))); have n1_ := kB BK458 hb; have n2_ := kB BK459 hb; have n3_ := bS HB hb; clear BK458; clear BK459; clear HB; have HO480 := n0_; have BK458 := n1_; have BK459 := n2_; have HB := n3_; clear n0_ n1_ n2_ n3_; (try clear hb); (try clear ho0); obtain ⟨Ao46, co46, eo46⟩ := Kd.S_slice HO480.out; subst eo46; have hcz47_0 := bc0 BK458; have hcz47_1 := bc1 BK458; have hcz47_2 := bc2 BK458; have hfz47_0 := bf BK458 0; have hfz47_1 := bf BK458 1; have hfz47_2 := bf BK458 2) | (go_at_call 71; (with_reducible refine (impl_isEnd.calls a0_0 _ _ l0_1 _ _ l0_2 a2 true _ ?side1 ?side2 ?side3 ?side4 A38.out).mono ?_); (case side1 => exact cS HR0_1 HB); (case side2 => exact HC0_1.out); (case side3 => exact cS HR0_2 HB); (case side4 => exact HC0_2.out); rintro e w48 ⟨rfl, hb⟩; have n0_ := Aside0.mk (Kd.S_below (zS HO480) hb); have n1_ := kB BK458 hb; have n2_ := kB BK459 hb; have n3_ := bS HB hb; clear HO480; clear BK458; clear BK459; clear HB; have HO480 := n0_; have BK458 := n1_; have BK459 := n2_; have HB := n3_; clear n0_ n1_ n2_ n3_; (try clear hb); have hcz49_0 := bc0 BK459; have hcz49_1 := bc1 BK459; have hcz49_2 := bc2 BK459; have hfz49_0 := bf BK459 0; have hfz49_1 := bf BK459 1; have hfz49_2 := bf BK459 2) | (go_at_call 71; (with_reducible refine (impl_isEnd.calls a1_0 _ _ l1_1 _ _ l1_2 a3 true _ ?side1 ?side2 ?side3 ?side4 A40.out).mono ?_); (case side1 => exact cS HR1_1 HB); (case side2 => exact HC1_1.out); (case side3 => exact cS HR1_2 HB); (case side4 => exact HC1_2.out); rintro e w50 ⟨rfl, hb⟩; have n0_ := Aside0.mk (Kd.S_below (zS HO480) hb); have n1_ := kB BK458 hb; have n2_ := kB BK459 hb; have n3_ := bS HB hb; clear HO480; clear BK458; clear BK459; clear HB; have HO480 := n0_; have BK458 := n1_; have BK459 := n2_; have HB := n3_; clear n0_ n1_ n2_ n3_; (try clear hb)))
       go_ret
       exact ⟨by first | rfl | (simp [errW_none, errW_some] <;> rfl) | (simp [*, errW_none, errW_some] <;> rfl), by repeat (first | (with_reducible first | exact HB.out | apply below_alloc | apply pw_below_drewN | apply below_drew1 | refine below_set ?_ GE458.out | refine below_set ?_ GE459.out) | exact HB.out)⟩
      ·replace c41 := Bool.eq_false_iff.mpr c41
       subst c41
       have H1 : (some 2) = some r := by rw [if_neg (show ¬ (false = true) by decide)] at H; exact H
       clear H
       have H := H1
       clear H1
       obtain rfl := Option.some.inj H
       have hnb51 := NB458_459.out
       have hnc51 := NB459_458.out
       have hcz52_0 := bc0 BK458
       have hcz52_1 := bc1 BK458
       have hcz52_2 := bc2 BK458
       have hfz52_0 := bf BK458 0
       have hfz52_1 := bf BK458 1
       have hfz52_2 := bf BK458 2
       have hcz53_0 := bc0 BK459
       have hcz53_1 := bc1 BK459
       have hcz53_2 := bc2 BK459
       have hfz53_0 := bf BK459 0
       have hfz53_1 := bf BK459 1
       have hfz53_2 := bf BK459 2
       go_wp2_with (first | ((with_reducible refine gate_callee (f := 44) rfl ?_); refine goesL_ (some 35) rfl rfl Try.func44 (by kernel_rfl) rfl #[.agg #[.int .i64 a0_0, .slice A0_1 l0_1.length c0_1, .slice A0_2 l0_2.length c0_2], .agg #[.int .i64 a1_0, .slice A1_1 l1_1.length c1_1, .slice A1_2 l1_2.length c1_2], .int .i64 a2, .int .i64 a3] rfl zG ?_; (with_reducible refine (impl_NextPairs.calls kj4 a0_0 _ _ l0_1 _ _ l0_2 a1_0 _ _ l1_1 _ _ l1_2 a2 a3 t478 _ ?side1 ?side2 ?side3 ?side4 ?side5 ?side6 ?side7 ?side8 A36.out).mono ?_); (case side1 => exact cS HR0_1 HB); (case side2 => exact HC0_1.out); (case side3 => exact cS HR0_2 HB); (case side4 => exact HC0_2.out); (case side5 => exact cS HR1_1 HB); (case side6 => exact HC1_1.out); (case side7 => exact cS HR1_2 HB); (case side8 => exact HC1_2.out); rintro e w54 ⟨v479, rfl, ho0, hb⟩; refine ⟨_, rfl, ?_⟩; have n0_ := Aside0.mk (Kd.S_lower ho0 (below_size (zB HB))); have n1_ := kB BK458 hb; have n2_ := kB BK459 hb; have n3_ := bS HB hb; clear BK458; clear BK459; clear HB; have HO480 := n0_; have BK458 := n1_; have BK459 := n2_; have HB := n3_; clear n0_ n1_ n2_ n3_; (try clear hb); (try clear ho0); obtain ⟨Ao55, co55, eo55⟩ := Kd.S_slice HO480.out; subst eo55; have hcz56_0 := bc0 BK458; have hcz56_1 := bc1 BK458; have hcz56_2 := bc2 BK458; have hfz56_0 := bf BK458 0; have hfz56_1 := bf BK458 1; have hfz56_2 := bf BK458 2) | (go_at_call 71; (with_reducible refine (impl_isEnd.calls a0_0 _ _ l0_1 _ _ l0_2 a2 true _ ?side1 ?side2 ?side3 ?side4 A38.out).mono ?_); (case side1 => exact cS HR0_1 HB); (case side2 => exact HC0_1.out); (case side3 => exact cS HR0_2 HB); (case side4 => exact HC0_2.out); rintro e w57 ⟨rfl, hb⟩; have n0_ := Aside0.mk (Kd.S_below (zS HO480) hb); have n1_ := kB BK458 hb; have n2_ := kB BK459 hb; have n3_ := bS HB hb; clear HO480; clear BK458; clear BK459; clear HB; have HO480 := n0_; have BK458 := n1_; have BK459 := n2_; have HB := n3_; clear n0_ n1_ n2_ n3_; (try clear hb); have hcz58_0 := bc0 BK459; have hcz58_1 := bc1 BK459; have hcz58_2 := bc2 BK459; have hfz58_0 := bf BK459 0; have hfz58_1 := bf BK459 1; have hfz58_2 := bf BK459 2) | (go_at_call 71; (with_reducible refine (impl_isEnd.calls a1_0 _ _ l1_1 _ _ l1_2 a3 false _ ?side1 ?side2 ?side3 ?side4 A40.out).mono ?_); (case side1 => exact cS HR1_1 HB); (case side2 => exact HC1_1.out); (case side3 => exact cS HR1_2 HB); (case side4 => exact HC1_2.out); rintro e w59 ⟨rfl, hb⟩; have n0_ := Aside0.mk (Kd.S_below (zS HO480) hb); have n1_ := kB BK458 hb; have n2_ := kB BK459 hb; have n3_ := bS HB hb; clear HO480; clear BK458; clear BK459; clear HB; have HO480 := n0_; have BK458 := n1_; have BK459 := n2_; have HB := n3_; clear n0_ n1_ n2_ n3_; (try clear hb)))
       go_ret
       exact ⟨by first | rfl | (simp [errW_none, errW_some] <;> rfl) | (simp [*, errW_none, errW_some] <;> rfl), by repeat (first | (with_reducible first | exact HB.out | apply below_alloc | apply pw_below_drewN | apply below_drew1 | refine below_set ?_ GE458.out | refine below_set ?_ GE459.out) | exact HB.out)⟩
     ·replace c39 := Bool.eq_false_iff.mpr c39
      subst c39
      have H1 : (some 2) = some r := by rw [if_neg (show ¬ (false = true) by decide)] at H; exact H
      clear H
      have H := H1
      clear H1
      obtain rfl := Option.some.inj H
      have hnb60 := NB458_459.out
      have hnc60 := NB459_458.out
      have hcz61_0 := bc0 BK458
      have hcz61_1 := bc1 BK458
      have hcz61_2 := bc2 BK458
      have hfz61_0 := bf BK458 0
      have hfz61_1 := bf BK458 1
      have hfz61_2 := bf BK458 2
      have hcz62_0 := bc0 BK459
      have hcz62_1 := bc1 BK459
      have hcz62_2 := bc2 BK459
      have hfz62_0 := bf BK459 0
      have hfz62_1 := bf BK459 1
      have hfz62_2 := bf BK459 2
      go_wp2_with (first | ((with_reducible refine gate_callee (f := 44) rfl ?_); refine goesL_ (some 35) rfl rfl Try.func44 (by kernel_rfl) rfl #[.agg #[.int .i64 a0_0, .slice A0_1 l0_1.length c0_1, .slice A0_2 l0_2.length c0_2], .agg #[.int .i64 a1_0, .slice A1_1 l1_1.length c1_1, .slice A1_2 l1_2.length c1_2], .int .i64 a2, .int .i64 a3] rfl zG ?_; (with_reducible refine (impl_NextPairs.calls kj4 a0_0 _ _ l0_1 _ _ l0_2 a1_0 _ _ l1_1 _ _ l1_2 a2 a3 t478 _ ?side1 ?side2 ?side3 ?side4 ?side5 ?side6 ?side7 ?side8 A36.out).mono ?_); (case side1 => exact cS HR0_1 HB); (case side2 => exact HC0_1.out); (case side3 => exact cS HR0_2 HB); (case side4 => exact HC0_2.out); (case side5 => exact cS HR1_1 HB); (case side6 => exact HC1_1.out); (case side7 => exact cS HR1_2 HB); (case side8 => exact HC1_2.out); rintro e w63 ⟨v479, rfl, ho0, hb⟩; refine ⟨_, rfl, ?_⟩; have n0_ := Aside0.mk (Kd.S_lower ho0 (below_size (zB HB))); have n1_ := kB BK458 hb; have n2_ := kB BK459 hb; have n3_ := bS HB hb; clear BK458; clear BK459; clear HB; have HO480 := n0_; have BK458 := n1_; have BK459 := n2_; have HB := n3_; clear n0_ n1_ n2_ n3_; (try clear hb); (try clear ho0); obtain ⟨Ao64, co64, eo64⟩ := Kd.S_slice HO480.out; subst eo64; have hcz65_0 := bc0 BK458; have hcz65_1 := bc1 BK458; have hcz65_2 := bc2 BK458; have hfz65_0 := bf BK458 0; have hfz65_1 := bf BK458 1; have hfz65_2 := bf BK458 2) | (go_at_call 71; (with_reducible refine (impl_isEnd.calls a0_0 _ _ l0_1 _ _ l0_2 a2 false _ ?side1 ?side2 ?side3 ?side4 A38.out).mono ?_); (case side1 => exact cS HR0_1 HB); (case side2 => exact HC0_1.out); (case side3 => exact cS HR0_2 HB); (case side4 => exact HC0_2.out); rintro e w66 ⟨rfl, hb⟩; have n0_ := Aside0.mk (Kd.S_below (zS HO480) hb); have n1_ := kB BK458 hb; have n2_ := kB BK459 hb; have n3_ := bS HB hb; clear HO480; clear BK458; clear BK459; clear HB; have HO480 := n0_; have BK458 := n1_; have BK459 := n2_; have HB := n3_; clear n0_ n1_ n2_ n3_; (try clear hb)))
      go_ret
      exact ⟨by first | rfl | (simp [errW_none, errW_some] <;> rfl) | (simp [*, errW_none, errW_some] <;> rfl), by repeat (first | (with_reducible first | exact HB.out | apply below_alloc | apply pw_below_drewN | apply below_drew1 | refine below_set ?_ GE458.out | refine below_set ?_ GE459.out) | exact HB.out)⟩
    ·rw [if_neg c37] at H
     have c37b0 : ((t478.length : Int) == 0) = false := beq_eq_false_iff_ne.mpr c37
     have c37b1 : ((t478.length : Int) != 0) = true := bne_iff_ne.mpr c37
     have c37b2 : ¬ (t478 = []) := fun h_ => c37 (by rw [h_]; rfl)
     obtain rfl := Option.some.inj H
     have hnb67 := NB458_459.out
     have hnc67 := NB459_458.out
     have hcz68_0 := bc0 BK458
     have hcz68_1 := bc1 BK458
     have hcz68_2 := bc2 BK458
     have hfz68_0 := bf BK458 0
     have hfz68_1 := bf BK458 1
     have hfz68_2 := bf BK458 2
     have hcz69_0 := bc0 BK459
     have hcz69_1 := bc1 BK459
     have hcz69_2 := bc2 BK459
     have hfz69_0 := bf BK459 0
     have hfz69_1 := bf BK459 1
     have hfz69_2 := bf BK459 2
     go_wp2_with (first | ((with_reducible refine gate_callee (f := 44) rfl ?_); refine goesL_ (some 35) rfl rfl Try.func44 (by kernel_rfl) rfl #[.agg #[.int .i64 a0_0, .slice A0_1 l0_1.length c0_1, .slice A0_2 l0_2.length c0_2], .agg #[.int .i64 a1_0, .slice A1_1 l1_1.length c1_1, .slice A1_2 l1_2.length c1_2], .int .i64 a2, .int .i64 a3] rfl zG ?_; (with_reducible refine (impl_NextPairs.calls kj4 a0_0 _ _ l0_1 _ _ l0_2 a1_0 _ _ l1_1 _ _ l1_2 a2 a3 t478 _ ?side1 ?side2 ?side3 ?side4 ?side5 ?side6 ?side7 ?side8 A36.out).mono ?_); (case side1 => exact cS HR0_1 HB); (case side2 => exact HC0_1.out); (case side3 => exact cS HR0_2 HB); (case side4 => exact HC0_2.out); (case side5 => exact cS HR1_1 HB); (case side6 => exact HC1_1.out); (case side7 => exact cS HR1_2 HB); (case side8 => exact HC1_2.out); rintro e w70 ⟨v479, rfl, ho0, hb⟩; refine ⟨_, rfl, ?_⟩; have n0_ := Aside0.mk (Kd.S_lower ho0 (below_size (zB HB))); have n1_ := kB BK458 hb; have n2_ := kB BK459 hb; have n3_ := bS HB hb; clear BK458; clear BK459; clear HB; have HO480 := n0_; have BK458 := n1_; have BK459 := n2_; have HB := n3_; clear n0_ n1_ n2_ n3_; (try clear hb); (try clear ho0); obtain ⟨Ao71, co71, eo71⟩ := Kd.S_slice HO480.out; subst eo71))
     go_ret
     exact ⟨by first | rfl | (simp [errW_none, errW_some] <;> rfl) | (simp [*, errW_none, errW_some] <;> rfl), by repeat (first | (with_reducible first | exact HB.out | apply below_alloc | apply pw_below_drewN | apply below_drew1 | refine below_set ?_ GE458.out | refine below_set ?_ GE459.out) | exact HB.out)⟩

end Go.Proofs.Ytmenijbpglknbaa.PFnExactIsSafe
