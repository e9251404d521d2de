-- WRITTEN by pp.py, this session's own wrapper around the print; not trusted: Lean checks it
import Derived.Test.YtmenijbpglknbaaPFnExactIsSafex0
import Derived.Test.YtmenijbpglknbaaPFnExactIsSafex12
namespace Go.Proofs.Ytmenijbpglknbaa.PFnExactIsSafe
open Go.RowKit Go.Proofs.Ytmenijbpglknbaa.Hw Go.Proofs.YtmenijbpglknbaaW.PrintWords Go.Proofs.YtmenijbpglknbaaW.PrintLast Go.Proofs.YtmenijbpglknbaaW.PrintMore
attribute [local go_sem] max2_int min2_int max_two min_two max_three min_three max_four min_four   -- for this text's walks alone
set_option linter.unusedVariables false
set_option linter.unusedSimpArgs false
set_option linter.unusedSectionVars false

/-! ### impl_MovesFrom: function 64 -/
def impl_MovesFrom.l0 : Nat → Int → Bool → List Int → List (S64) → Int → Int → Option (List Int)
 | 0, _, _, _, _, _, _ => none
 | k + 1, x1, x2, x7, x12, x13, x14 => if x14 < x13 then (if 0 ≤ x14 then (if x14 < (x12.length : Int) then (if ((rd_T64 x12 x14).f0) = x1 then (if (((rd_T64 x12 x14).f1) == x2) = true then (if x7.length < 17592186044416 then (impl_MovesFrom.l0 k x1 x2 (x7 ++ [(rd_T64 x12 x14).f2]) x12 x13 (wrap64 (x14 + 1))) else (none)) else (impl_MovesFrom.l0 k x1 x2 x7 x12 x13 (wrap64 (x14 + 1)))) else (impl_MovesFrom.l0 k x1 x2 x7 x12 x13 (wrap64 (x14 + 1)))) else (none)) else (none)) else ((slices_Sort_int_int.f x7).bind fun t396 => ((slices_Compact_int_int.f t396).bind fun t397 => (some t397)))
def impl_MovesFrom.f (k : Nat) (a0_0 : Int) (l0_1 : List Bool) (l0_2 : List (S64)) (a1 : Int) (a2 : Bool) : Option (List Int) := impl_MovesFrom.l0 k a1 a2 (([] : List Int)) l0_2 (l0_2.length : Int) 0
theorem impl_MovesFrom.mono_l : ∀ k, (∀ y0 y1 y2 y3 y4 y5, LeO (impl_MovesFrom.l0 k y0 y1 y2 y3 y4 y5) (impl_MovesFrom.l0 (k + 1) y0 y1 y2 y3 y4 y5))
 | 0 => fun _ _ _ _ _ _ r h => by simp [impl_MovesFrom.l0] at h
 | k + 1 => by
  have ih0 := impl_MovesFrom.mono_l k
  ·intro y0 y1 y2 y3 y4 y5
   unfold impl_MovesFrom.l0
   repeat' first
   | (with_reducible exact ih0 _ _ _ _ _ _)
   | (with_reducible exact LeO.refl _)
   | (with_reducible exact LeO.none _)
   | (with_reducible refine LeO.ite ?_ ?_)
   | (with_reducible refine LeO.bind ?_ (fun _ => ?_))
   | exact ih0 _ _ _ _ _ _
   | exact LeO.none _
   | refine LeO.ite ?_ ?_
   | refine LeO.bind ?_ (fun _ => ?_)
theorem impl_MovesFrom.mono : ∀ a0 a1 a2 a3 a4 k, LeO (impl_MovesFrom.f k a0 a1 a2 a3 a4) (impl_MovesFrom.f (k + 1) a0 a1 a2 a3 a4) := by
 intro a0 a1 a2 a3 a4 k
 have ih0 := impl_MovesFrom.mono_l k
 unfold impl_MovesFrom.f
 repeat' first
   | (with_reducible exact ih0 _ _ _ _ _ _)
   | (with_reducible exact LeO.refl _)
   | (with_reducible exact LeO.none _)
   | (with_reducible refine LeO.ite ?_ ?_)
   | (with_reducible refine LeO.bind ?_ (fun _ => ?_))
   | exact ih0 _ _ _ _ _ _
   | exact LeO.none _
   | refine LeO.ite ?_ ?_
   | refine LeO.bind ?_ (fun _ => ?_)
set_option maxHeartbeats 8000000 in
set_option maxRecDepth 100000 in
theorem impl_MovesFrom.calls (k : Nat) (a0_0 : Int) (A0_1 : Option Addr) (c0_1 : Nat) (l0_1 : List Bool) (A0_2 : Option Addr) (c0_2 : Nat) (l0_2 : List (S64)) (a1 : Int) (a2 : Bool) (r : List Int) (w : World) (hr0_1 : Kd.C Kd.bool w A0_1 l0_1.length l0_1) (hc0_1 : l0_1.length ≤ c0_1) (hr0_2 : Kd.C k64 w A0_2 l0_2.length l0_2) (hc0_2 : l0_2.length ≤ c0_2) (h : impl_MovesFrom.f k a0_0 l0_1 l0_2 a1 a2 = some r) :
  Calls Try.prog 64 #[.agg #[.int .i64 a0_0, .slice A0_1 l0_1.length c0_1, .slice A0_2 l0_2.length c0_2], .int .i64 a1, .bool a2] w fun e w' => ∃ v0_ : Value, e = .returned (v0_) ∧ Kd.R (Kd.int .i64) 3 w' w.heap.size (fun _ => True) v0_ r ∧ Below w.heap.size w w' := by
 have hu31 := Try.underlying31
 have hu64 := Try.underlying64
 have HR0_1 := Aside0.mk hr0_1
 have HC0_1 := Aside0.mk hc0_1
 clear hr0_1 hc0_1
 have HR0_2 := Aside0.mk hr0_2
 have HC0_2 := Aside0.mk hc0_2
 clear hr0_2 hc0_2
 have HB := Aside0.mk (Below.refl w.heap.size w)
 have H : (impl_MovesFrom.l0 k a1 a2 (([] : List Int)) l0_2 (l0_2.length : Int) 0) = some r := h
 clear h
 obtain ⟨y388, hy388⟩ : ∃ y_ : List Int, y_ = (([] : List Int)) := ⟨_, rfl⟩
 replace H : (impl_MovesFrom.l0 k a1 a2 y388 l0_2 (l0_2.length : Int) 0) = some r := by first | (rw [hy388]; with_reducible exact H) | (have H2_ := (Option.bind_some _ _).symm.trans H; rw [hy388]; with_reducible exact H2_) | (have H2_ := (Option.bind_some _ _).symm.trans H; with_reducible exact H2_) | with_reducible exact H | (rw [hy388]; exact H) | exact H
 have Ny388 := Aside0.mk hy388
 clear hy388
 have H' := Aside0.mk H
 clear H
 go_enter Try.func64, Try.ntmps64
 go_wp2_with (first | ((with_reducible refine gate_dst (N := 3) rfl ?_); refine box_event ?hg (N := 3) ?hd (cs := #[.int .i64 a0_0, .slice A0_1 l0_1.length c0_1, .slice A0_2 l0_2.length c0_2]) (t := 31) ?hr ?_; (case hd => rfl); (case hg => rfl); (case hr => first | (go_simp; done) | (go_simp; rfl)); intro gb387 hg w4 hbox hb; have n0_ := bS HB hb; have n1_ := Aside0.mk (hbox); have n2_ := gS HB hg; have n3_ := gS HB hg; clear HB; have HB := n0_; have BK387 := n1_; have GW387 := n2_; have GE387 := n3_; clear n0_ n1_ n2_ n3_; clear hb hbox hg) | ((with_reducible refine gate_dst (N := 10) rfl ?_); refine Kd.R_lit (Kd.int .i64) _ 3 ?hg (N := 10) ?hd (xs := ([] : List Int)) (inner := []) (ok := fun _ => True) (okp := fun _ => True) ?hr ?hp (fun _ hk => hk) trivial (Below.refl _ _) (Nat.le_refl _) (by simp) ?_; (case hd => rfl); (case hg => rfl); (case hr => first | (go_simp; done) | (go_simp; rfl)); (case hp => exact (Reps.none _ _)); intro v389 w5 ho6 hb hg_ hnew_; clear hg_ hnew_; (first | rw [← Ny388.out] at ho6 | (simp only [Int.reduceToNat] at ho6; rw [← Ny388.out] at ho6)); have n0_ := Aside0.mk (Kd.R_lower ho6 (below_size (zB HB))); have n1_ := kB BK387 hb; have n2_ := bS HB hb; clear BK387; clear HB; have HO390 := n0_; have BK387 := n1_; have HB := n2_; clear n0_ n1_ n2_; clear hb ho6; have hcz7_0 := bc0 BK387; have hcz7_1 := bc1 BK387; have hcz7_2 := bc2 BK387; have hfz7_0 := bf BK387 0; have hfz7_1 := bf BK387 1; have hfz7_2 := bf BK387 2))
 go_loopg [7, 14] k (fun kq v7 v14 w' => ∃ (x7_1 : List Int) (x14_1 : Int), v14 = .int .i64 x14_1 ∧ Aside0 (impl_MovesFrom.l0 kq a1 a2 x7_1 l0_2 (l0_2.length : Int) x14_1 = some r) ∧ Aside0 (kq ≤ k) ∧ Aside0 (Kd.R (Kd.int .i64) 3 w' w.heap.size (fun _ => True) v7 x7_1) ∧ Aside0 (w'.heap[gb387]? = some (.cells #[.int .i64 a0_0, (.slice A0_1 l0_1.length c0_1), (.slice A0_2 l0_2.length c0_2)] 31 (0, 0))) ∧ Aside0 (Below w.heap.size w w'))
 case atStart => exact ⟨(y388), (0), zF, H', ⟨Nat.le_refl _⟩, ⟨zR HO390⟩, ⟨zK BK387⟩, ⟨zB HB⟩⟩
 case round =>
  clear H'
  try clear p2
  try clear c6
  try clear hcz7_0
  try clear hcz7_1
  try clear hcz7_2
  try clear hfz7_0
  try clear hfz7_1
  try clear hfz7_2
  obtain ⟨x7_1, x14_1, rfl, HA, HK1, HO_7, BK387, HB⟩ := hrel
  cases gk with
  | zero => exact absurd HA.out (by simp [impl_MovesFrom.l0])
  | succ k1 =>
   have H := HA.out
   clear HA
   simp only [impl_MovesFrom.l0] at H
   by_cases c8 : x14_1 < (l0_2.length : Int)
   ·rw [if_pos c8] at H
    have c8b0 : decide (x14_1 < (l0_2.length : Int)) = true := decide_eq_true c8
    clear c8
    by_cases c9 : 0 ≤ x14_1
    ·rw [if_pos c9] at H
     have c9b0 : decide (0 ≤ x14_1) = true := decide_eq_true c9
     clear c9
     by_cases c10 : x14_1 < (l0_2.length : Int)
     ·rw [if_pos c10] at H
      have c10b0 : decide (x14_1 < (l0_2.length : Int)) = true := decide_eq_true c10
      clear c10
      by_cases c11 : ((rd_T64 l0_2 x14_1).f0) = a1
      ·rw [if_pos c11] at H
       have c11b0 : (((rd_T64 l0_2 x14_1).f0) == a1) = true := beq_iff_eq.mpr c11
       have c11b1 : (((rd_T64 l0_2 x14_1).f0) != a1) = false := bne_eq_false_iff_eq.mpr c11
       clear c11
       by_cases c12 : (((rd_T64 l0_2 x14_1).f1) == a2) = true
       ·rw [if_pos c12] at H
        have c12b0 : (((rd_T64 l0_2 x14_1).f1) == a2) = true := c12
        (try (have c12b1 : decide (((rd_T64 l0_2 x14_1).f1) = a2) = true := by simpa using c12))
        (try (have c12b2 : (((rd_T64 l0_2 x14_1).f1) == a2) = true := by simpa using c12))
        clear c12
        by_cases c13 : x7_1.length < 17592186044416
        ·rw [if_pos c13] at H
         have LMc13 := Aside0.mk c13
         clear c13
         obtain ⟨y393, hy393⟩ : ∃ y_ : List Int, y_ = (x7_1 ++ [(rd_T64 l0_2 x14_1).f2]) := ⟨_, rfl⟩
         replace H : (impl_MovesFrom.l0 k1 a1 a2 y393 l0_2 (l0_2.length : Int) (wrap64 (x14_1 + 1))) = some r := by first | (rw [hy393]; with_reducible exact H) | (have H2_ := (Option.bind_some _ _).symm.trans H; rw [hy393]; with_reducible exact H2_) | (have H2_ := (Option.bind_some _ _).symm.trans H; with_reducible exact H2_) | with_reducible exact H | (rw [hy393]; exact H) | exact H
         have Ny393 := Aside0.mk hy393
         clear hy393
         have H' := Aside0.mk H
         clear H
         have p391 : 0 ≤ (x14_1 : Int) := of_decide_eq_true (by first | (with_reducible assumption) | assumption)
         have q391 : x14_1 < (l0_2.length : Int) := of_decide_eq_true (by first | (with_reducible assumption) | assumption)
         obtain ⟨ad391, e391, hx391_0, hx391_1, hx391_2, hx391_3⟩ := at_T64 HR0_2.out x14_1 p391 q391
         cases e391
         replace hx391_0 := (HB.out.cell (World.block_lt_of_cell? w _ hx391_0)).trans hx391_0
         replace hx391_1 := (HB.out.cell (World.block_lt_of_cell? w _ hx391_1)).trans hx391_1
         replace hx391_2 := (HB.out.cell (World.block_lt_of_cell? w _ hx391_2)).trans hx391_2
         replace hx391_3 := (HB.out.cell (World.block_lt_of_cell? w _ hx391_3)).trans hx391_3
         replace p391 := eq_true p391
         replace q391 := eq_true q391
         go_wp2_with (first | ((with_reducible refine gate_dst (N := 9) rfl ?_); refine box_event ?hg (N := 9) ?hd (cs := #[.int .i64 0, .bool false, .int .i64 0, .int .i64 0]) (t := 64) ?hr ?_; (case hd => rfl); (case hg => rfl); (case hr => first | (go_simp; done) | (go_simp; rfl)); intro gb392 hg w14 hbox hb; have n0_ := Aside0.mk (Kd.R_below (zR HO_7) hb); have n1_ := kB BK387 hb; have n2_ := bS HB hb; have n3_ := Aside0.mk (hbox); have n4_ := gS HB hg; have n5_ := gS HB hg; have n6_ := Aside0.mk ((by rw [hg]; exact Nat.ne_of_lt (blk_lt (g := gb387) (o := .cells #[.int .i64 a0_0, .slice A0_1 l0_1.length c0_1, .slice (some ad391) l0_2.length c0_2] 31 (0, 0)) (zK BK387)) : gb387 ≠ gb392)); have n7_ := Aside0.mk ((by rw [hg]; exact Nat.ne_of_gt (blk_lt (g := gb387) (o := .cells #[.int .i64 a0_0, .slice A0_1 l0_1.length c0_1, .slice (some ad391) l0_2.length c0_2] 31 (0, 0)) (zK BK387)) : gb392 ≠ gb387)); clear HO_7; clear BK387; clear HB; have HO_7 := n0_; have BK387 := n1_; have HB := n2_; have BK392 := n3_; have GW392 := n4_; have GE392 := n5_; have NB387_392 := n6_; have NB392_387 := n7_; clear n0_ n1_ n2_ n3_ n4_ n5_ n6_ n7_; clear hb hbox hg; have hnb15 := NB392_387.out; have hnc15 := NB387_392.out; have hcz16_0 := bc0 BK392; have hcz16_1 := bc1 BK392; have hcz16_2 := bc2 BK392; have hcz16_3 := bc3 BK392; have hfz16_0 := bf BK392 0; have hfz16_1 := bf BK392 1; have hfz16_2 := bf BK392 2; have hfz16_3 := bf BK392 3) | ((with_reducible refine gate_builtin (b := .append) (xs := #[.tmp 28, .tmp 31]) rfl ?_); at_builtin; refine Kd.R_append (Kd.int .i64) (w0 := w) w.heap.size rfl (.tmp 28) (.tmp 31) 38 3 (.int .i64 0) 8 rfl Try.underlying38 info3 rfl (by decide) (by omega) u7 x7_1 ((rd_T64 l0_2 x14_1).f2) [.int .i64 ((rd_T64 l0_2 x14_1).f2)] (fun _ => True) (fun _ => False) rfl (by first | (go_simp; done) | (go_simp; rfl)) ?aP (fun _ hk => hk.elim) ?aF ?aO ?aB ?aS ?aL ?_; (case aP => exact rfl); (case aB => exact (zB HB)); (case aF => exact (fun _ _ => trivial)); (case aO => exact (by (with_reducible repeat (first | apply Kd.R_alloc | apply Kd.R_drewN | apply Kd.R_drew)); exact Kd.R_mono (Kd.R_far (p := ⟨gb392, 3, none⟩) (Kd.R_far (p := ⟨gb392, 2, none⟩) (Kd.R_far (p := ⟨gb392, 1, none⟩) (Kd.R_far (p := ⟨gb392, 0, none⟩) (Kd.R_types HO_7.out BK392.out (by decide)) (fun _ hk => hk.2) (.int .i64 ((rd_T64 l0_2 x14_1).f0))) (fun _ hk => hk.2) (.bool ((rd_T64 l0_2 x14_1).f1))) (fun _ hk => hk.2) (.int .i64 ((rd_T64 l0_2 x14_1).f2))) (fun _ hk => hk.2) (.int .i64 ((rd_T64 l0_2 x14_1).f3))) (fun _ hk => trivial))); (case aS => exact (below_size (zB HB))); (case aL => have := LMc13.out; omega); intro v394 w17 ho hb hg hat; rw [← Ny393.out] at ho; have n0_ := Aside0.mk (blk_grown (g := gb387) (o := .cells #[.int .i64 a0_0, .slice A0_1 l0_1.length c0_1, .slice (some ad391) l0_2.length c0_2] 31 (0, 0)) (by (with_reducible repeat (first | refine blk_drewN ?_ _ | refine blk_drew ?_ | refine blk_alloc ?_ _)); refine blk_far ?_ NB387_392.out _; (with_reducible repeat (first | refine blk_drewN ?_ _ | refine blk_drew ?_ | refine blk_alloc ?_ _)); refine blk_far ?_ NB387_392.out _; (with_reducible repeat (first | refine blk_drewN ?_ _ | refine blk_drew ?_ | refine blk_alloc ?_ _)); refine blk_far ?_ NB387_392.out _; (with_reducible repeat (first | refine blk_drewN ?_ _ | refine blk_drew ?_ | refine blk_alloc ?_ _)); refine blk_far ?_ NB387_392.out _; (with_reducible repeat (first | refine blk_drewN ?_ _ | refine blk_drew ?_ | refine blk_alloc ?_ _)); exact BK387.out) hg (Kd.R_ne HO_7.out BK387.out (by decide))); have n1_ := Aside0.mk (blk_grown (g := gb392) (o := .cells #[.int .i64 ((rd_T64 l0_2 x14_1).f0), .bool ((rd_T64 l0_2 x14_1).f1), .int .i64 ((rd_T64 l0_2 x14_1).f2), .int .i64 ((rd_T64 l0_2 x14_1).f3)] 64 (0, 0)) (by (with_reducible repeat (first | refine blk_drewN ?_ _ | refine blk_drew ?_ | refine blk_alloc ?_ _)); refine blk_put (cs := #[.int .i64 ((rd_T64 l0_2 x14_1).f0), .bool ((rd_T64 l0_2 x14_1).f1), .int .i64 ((rd_T64 l0_2 x14_1).f2), .int .i64 0]) ?_ 3 _ rfl; (with_reducible repeat (first | refine blk_drewN ?_ _ | refine blk_drew ?_ | refine blk_alloc ?_ _)); refine blk_put (cs := #[.int .i64 ((rd_T64 l0_2 x14_1).f0), .bool ((rd_T64 l0_2 x14_1).f1), .int .i64 0, .int .i64 0]) ?_ 2 _ rfl; (with_reducible repeat (first | refine blk_drewN ?_ _ | refine blk_drew ?_ | refine blk_alloc ?_ _)); refine blk_put (cs := #[.int .i64 ((rd_T64 l0_2 x14_1).f0), .bool false, .int .i64 0, .int .i64 0]) ?_ 1 _ rfl; (with_reducible repeat (first | refine blk_drewN ?_ _ | refine blk_drew ?_ | refine blk_alloc ?_ _)); refine blk_put (cs := #[.int .i64 0, .bool false, .int .i64 0, .int .i64 0]) ?_ 0 _ rfl; (with_reducible repeat (first | refine blk_drewN ?_ _ | refine blk_drew ?_ | refine blk_alloc ?_ _)); exact BK392.out) hg (Kd.R_ne HO_7.out BK392.out (by decide))); have n2_ := Aside0.mk (hb); have n3_ := Aside0.mk (ho); clear BK387; clear BK392; clear HB; clear HO_7; have BK387 := n0_; have BK392 := n1_; have HB := n2_; have HO395 := n3_; clear n0_ n1_ n2_ n3_; clear ho hb hg hat))
         go_roundg k1
         case measure => have := HK1.out; omega
         case rel => exact ⟨(y393), (wrap64 (x14_1 + 1)), zF, H', ⟨by have := HK1.out; omega⟩, ⟨zR HO395⟩, ⟨zK BK387⟩, ⟨zB HB⟩⟩
        ·rw [if_neg c13] at H
         exact absurd H (by simp)
       ·rw [if_neg c12] at H
        have c12b0 : (((rd_T64 l0_2 x14_1).f1) == a2) = false := by simpa using c12
        (try (have c12b1 : decide (((rd_T64 l0_2 x14_1).f1) = a2) = false := by simpa using c12))
        (try (have c12b2 : (((rd_T64 l0_2 x14_1).f1) == a2) = false := by simpa using c12))
        (try (have c12b3 : ¬ (((rd_T64 l0_2 x14_1).f1) = a2) := by simpa using c12))
        clear c12
        have H' := Aside0.mk H
        clear H
        have p391 : 0 ≤ (x14_1 : Int) := of_decide_eq_true (by first | (with_reducible assumption) | assumption)
        have q391 : x14_1 < (l0_2.length : Int) := of_decide_eq_true (by first | (with_reducible assumption) | assumption)
        obtain ⟨ad391, e391, hx391_0, hx391_1, hx391_2, hx391_3⟩ := at_T64 HR0_2.out x14_1 p391 q391
        cases e391
        replace hx391_0 := (HB.out.cell (World.block_lt_of_cell? w _ hx391_0)).trans hx391_0
        replace hx391_1 := (HB.out.cell (World.block_lt_of_cell? w _ hx391_1)).trans hx391_1
        replace hx391_2 := (HB.out.cell (World.block_lt_of_cell? w _ hx391_2)).trans hx391_2
        replace hx391_3 := (HB.out.cell (World.block_lt_of_cell? w _ hx391_3)).trans hx391_3
        replace p391 := eq_true p391
        replace q391 := eq_true q391
        go_wp2_with (first | ((with_reducible refine gate_dst (N := 9) rfl ?_); refine box_event ?hg (N := 9) ?hd (cs := #[.int .i64 0, .bool false, .int .i64 0, .int .i64 0]) (t := 64) ?hr ?_; (case hd => rfl); (case hg => rfl); (case hr => first | (go_simp; done) | (go_simp; rfl)); intro gb392 hg w18 hbox hb; have n0_ := Aside0.mk (Kd.R_below (zR HO_7) hb); have n1_ := kB BK387 hb; have n2_ := bS HB hb; have n3_ := Aside0.mk (hbox); have n4_ := gS HB hg; have n5_ := gS HB hg; have n6_ := Aside0.mk ((by rw [hg]; exact Nat.ne_of_lt (blk_lt (g := gb387) (o := .cells #[.int .i64 a0_0, .slice A0_1 l0_1.length c0_1, .slice (some ad391) l0_2.length c0_2] 31 (0, 0)) (zK BK387)) : gb387 ≠ gb392)); have n7_ := Aside0.mk ((by rw [hg]; exact Nat.ne_of_gt (blk_lt (g := gb387) (o := .cells #[.int .i64 a0_0, .slice A0_1 l0_1.length c0_1, .slice (some ad391) l0_2.length c0_2] 31 (0, 0)) (zK BK387)) : gb392 ≠ gb387)); clear HO_7; clear BK387; clear HB; have HO_7 := n0_; have BK387 := n1_; have HB := n2_; have BK392 := n3_; have GW392 := n4_; have GE392 := n5_; have NB387_392 := n6_; have NB392_387 := n7_; clear n0_ n1_ n2_ n3_ n4_ n5_ n6_ n7_; clear hb hbox hg; have hnb19 := NB392_387.out; have hnc19 := NB387_392.out; have hcz20_0 := bc0 BK392; have hcz20_1 := bc1 BK392; have hcz20_2 := bc2 BK392; have hcz20_3 := bc3 BK392; have hfz20_0 := bf BK392 0; have hfz20_1 := bf BK392 1; have hfz20_2 := bf BK392 2; have hfz20_3 := bf BK392 3))
        go_roundg k1
        case measure => have := HK1.out; omega
        case rel => exact ⟨(x7_1), (wrap64 (x14_1 + 1)), zF, H', ⟨by have := HK1.out; omega⟩, ⟨by (with_reducible repeat (first | apply Kd.R_alloc | apply Kd.R_drewN | apply Kd.R_drew)); exact Kd.R_mono (Kd.R_far (p := ⟨gb392, 3, none⟩) (Kd.R_far (p := ⟨gb392, 2, none⟩) (Kd.R_far (p := ⟨gb392, 1, none⟩) (Kd.R_far (p := ⟨gb392, 0, none⟩) (Kd.R_types HO_7.out BK392.out (by decide)) (fun _ hk => hk.2) (.int .i64 ((rd_T64 l0_2 x14_1).f0))) (fun _ hk => hk.2) (.bool ((rd_T64 l0_2 x14_1).f1))) (fun _ hk => hk.2) (.int .i64 ((rd_T64 l0_2 x14_1).f2))) (fun _ hk => hk.2) (.int .i64 ((rd_T64 l0_2 x14_1).f3))) (fun _ hk => trivial)⟩, ⟨by (with_reducible repeat (first | refine blk_drewN ?_ _ | refine blk_drew ?_ | refine blk_alloc ?_ _)); refine blk_far ?_ NB387_392.out _; (with_reducible repeat (first | refine blk_drewN ?_ _ | refine blk_drew ?_ | refine blk_alloc ?_ _)); refine blk_far ?_ NB387_392.out _; (with_reducible repeat (first | refine blk_drewN ?_ _ | refine blk_drew ?_ | refine blk_alloc ?_ _)); refine blk_far ?_ NB387_392.out _; (with_reducible repeat (first | refine blk_drewN ?_ _ | refine blk_drew ?_ | refine blk_alloc ?_ _)); refine blk_far ?_ NB387_392.out _; (with_reducible repeat (first | refine blk_drewN ?_ _ | refine blk_drew ?_ | refine blk_alloc ?_ _)); exact BK387.out⟩, ⟨zB HB⟩⟩
      ·rw [if_neg c11] at H
       have c11b0 : (((rd_T64 l0_2 x14_1).f0) == a1) = false := beq_eq_false_iff_ne.mpr c11
       have c11b1 : (((rd_T64 l0_2 x14_1).f0) != a1) = true := bne_iff_ne.mpr c11
       have H' := Aside0.mk H
       clear H
       have p391 : 0 ≤ (x14_1 : Int) := of_decide_eq_true (by first | (with_reducible assumption) | assumption)
       have q391 : x14_1 < (l0_2.length : Int) := of_decide_eq_true (by first | (with_reducible assumption) | assumption)
       obtain ⟨ad391, e391, hx391_0, hx391_1, hx391_2, hx391_3⟩ := at_T64 HR0_2.out x14_1 p391 q391
       cases e391
       replace hx391_0 := (HB.out.cell (World.block_lt_of_cell? w _ hx391_0)).trans hx391_0
       replace hx391_1 := (HB.out.cell (World.block_lt_of_cell? w _ hx391_1)).trans hx391_1
       replace hx391_2 := (HB.out.cell (World.block_lt_of_cell? w _ hx391_2)).trans hx391_2
       replace hx391_3 := (HB.out.cell (World.block_lt_of_cell? w _ hx391_3)).trans hx391_3
       replace p391 := eq_true p391
       replace q391 := eq_true q391
       go_wp2_with (first | ((with_reducible refine gate_dst (N := 9) rfl ?_); refine box_event ?hg (N := 9) ?hd (cs := #[.int .i64 0, .bool false, .int .i64 0, .int .i64 0]) (t := 64) ?hr ?_; (case hd => rfl); (case hg => rfl); (case hr => first | (go_simp; done) | (go_simp; rfl)); intro gb392 hg w21 hbox hb; have n0_ := Aside0.mk (Kd.R_below (zR HO_7) hb); have n1_ := kB BK387 hb; have n2_ := bS HB hb; have n3_ := Aside0.mk (hbox); have n4_ := gS HB hg; have n5_ := gS HB hg; have n6_ := Aside0.mk ((by rw [hg]; exact Nat.ne_of_lt (blk_lt (g := gb387) (o := .cells #[.int .i64 a0_0, .slice A0_1 l0_1.length c0_1, .slice (some ad391) l0_2.length c0_2] 31 (0, 0)) (zK BK387)) : gb387 ≠ gb392)); have n7_ := Aside0.mk ((by rw [hg]; exact Nat.ne_of_gt (blk_lt (g := gb387) (o := .cells #[.int .i64 a0_0, .slice A0_1 l0_1.length c0_1, .slice (some ad391) l0_2.length c0_2] 31 (0, 0)) (zK BK387)) : gb392 ≠ gb387)); clear HO_7; clear BK387; clear HB; have HO_7 := n0_; have BK387 := n1_; have HB := n2_; have BK392 := n3_; have GW392 := n4_; have GE392 := n5_; have NB387_392 := n6_; have NB392_387 := n7_; clear n0_ n1_ n2_ n3_ n4_ n5_ n6_ n7_; clear hb hbox hg; have hnb22 := NB392_387.out; have hnc22 := NB387_392.out; have hcz23_0 := bc0 BK392; have hcz23_1 := bc1 BK392; have hcz23_2 := bc2 BK392; have hcz23_3 := bc3 BK392; have hfz23_0 := bf BK392 0; have hfz23_1 := bf BK392 1; have hfz23_2 := bf BK392 2; have hfz23_3 := bf BK392 3))
       go_roundg k1
       case measure => have := HK1.out; omega
       case rel => exact ⟨(x7_1), (wrap64 (x14_1 + 1)), zF, H', ⟨by have := HK1.out; omega⟩, ⟨by (with_reducible repeat (first | apply Kd.R_alloc | apply Kd.R_drewN | apply Kd.R_drew)); exact Kd.R_mono (Kd.R_far (p := ⟨gb392, 3, none⟩) (Kd.R_far (p := ⟨gb392, 2, none⟩) (Kd.R_far (p := ⟨gb392, 1, none⟩) (Kd.R_far (p := ⟨gb392, 0, none⟩) (Kd.R_types HO_7.out BK392.out (by decide)) (fun _ hk => hk.2) (.int .i64 ((rd_T64 l0_2 x14_1).f0))) (fun _ hk => hk.2) (.bool ((rd_T64 l0_2 x14_1).f1))) (fun _ hk => hk.2) (.int .i64 ((rd_T64 l0_2 x14_1).f2))) (fun _ hk => hk.2) (.int .i64 ((rd_T64 l0_2 x14_1).f3))) (fun _ hk => trivial)⟩, ⟨by (with_reducible repeat (first | refine blk_drewN ?_ _ | refine blk_drew ?_ | refine blk_alloc ?_ _)); refine blk_far ?_ NB387_392.out _; (with_reducible repeat (first | refine blk_drewN ?_ _ | refine blk_drew ?_ | refine blk_alloc ?_ _)); refine blk_far ?_ NB387_392.out _; (with_reducible repeat (first | refine blk_drewN ?_ _ | refine blk_drew ?_ | refine blk_alloc ?_ _)); refine blk_far ?_ NB387_392.out _; (with_reducible repeat (first | refine blk_drewN ?_ _ | refine blk_drew ?_ | refine blk_alloc ?_ _)); refine blk_far ?_ NB387_392.out _; (with_reducible repeat (first | refine blk_drewN ?_ _ | refine blk_drew ?_ | refine blk_alloc ?_ _)); exact BK387.out⟩, ⟨zB HB⟩⟩
     ·rw [if_neg c10] at H
      exact absurd H (by simp)
    ·rw [if_neg c9] at H
     exact absurd H (by simp)
   ·rw [if_neg c8] at H
    have c8b0 : decide (x14_1 < (l0_2.length : Int)) = false := decide_eq_false c8
    clear c8
    replace H := Option.bind_eq_some_iff.mp H
    obtain ⟨t396, A240, H⟩ := H
    replace H : ((slices_Compact_int_int.f t396).bind fun t397 => (some t397)) = some r := H
    have A24 := Aside0.mk A240
    clear A240
    replace H := Option.bind_eq_some_iff.mp H
    obtain ⟨t397, A250, H⟩ := H
    replace H : (some t397) = some r := H
    have A25 := Aside0.mk A250
    clear A250
    obtain rfl := Option.some.inj H
    obtain ⟨Ao26, co26, eo26⟩ := Kd.R_slice HO_7.out
    subst eo26
    go_wp2_with (first | ((with_reducible refine gate_callee (f := 74) rfl ?_); refine goesL_ (some 35) rfl rfl Try.func74 (by kernel_rfl) rfl #[.slice Ao26 x7_1.length co26] rfl zG ?_; (with_reducible refine (slices_Sort_int_int.calls (fun k_ => some k_ = (.slice Ao26 x7_1.length co26 : Value).ownBlock) (.slice Ao26 x7_1.length co26) x7_1 t396 w _ ?side1 ?side2 A24.out).mono ?_); (case side1 => repeat (first | (with_reducible first | exact HB.out | apply below_alloc | apply pw_below_drewN | apply below_drew1 | refine below_set ?_ GE387.out) | exact HB.out)); (case side2 => exact Kd.R_tight rfl HO_7.out); rintro e w27 ⟨rfl, hy0, hb, hkp⟩; refine ⟨_, rfl, ?_⟩; have n0_ := Aside0.mk (Kd.R_reok rfl hy0 (fun k_ e_ => HO_7.out.1 k_ e_)); have n1_ := Aside0.mk (blk_kept (zK BK387) hkp (fun hs_ => (fun e_ => (Kd.R_ne HO_7.out BK387.out (by decide)) e_) hs_)); have n2_ := Aside0.mk (hb); clear HO_7; clear BK387; clear HB; have HO_7 := n0_; have BK387 := n1_; have HB := n2_; clear n0_ n1_ n2_; (try clear hb); (try clear hkp); (try clear hy0)) | ((with_reducible refine gate_callee (f := 75) rfl ?_); refine goesL_ (some 37) rfl rfl Try.func75 (by kernel_rfl) rfl #[.slice Ao26 x7_1.length co26] rfl zG ?_; (with_reducible refine (slices_Compact_int_int.calls (fun k_ => some k_ = (.slice Ao26 x7_1.length co26 : Value).ownBlock) (.slice Ao26 x7_1.length co26) t396 t397 w _ ?side1 ?side2 A25.out).mono ?_); (case side1 => repeat (first | (with_reducible first | exact HB.out | apply below_alloc | apply pw_below_drewN | apply below_drew1 | refine below_set ?_ GE387.out) | exact HB.out)); (case side2 => exact Kd.R_tight rfl HO_7.out); rintro e w28 ⟨v398, rfl, ho0, hb, hkp⟩; refine ⟨_, rfl, ?_⟩; have n0_ := Aside0.mk (blk_kept (zK BK387) hkp (fun hs_ => (fun e_ => (Kd.R_ne HO_7.out BK387.out (by decide)) e_) hs_)); have n1_ := Aside0.mk (Kd.R_mono (ok' := fun k_ => True) ho0 (fun k_ hk_ => trivial)); have n2_ := Aside0.mk (hb); clear BK387; clear HB; clear HO_7; have BK387 := n0_; have HO399 := n1_; have HB := n2_; clear n0_ n1_ n2_; (try clear hb); (try clear hkp); (try clear ho0)))
    go_ret
    exact ⟨_, by first | rfl | (simp [errW_none, errW_some] <;> rfl) | (simp [*, errW_none, errW_some] <;> rfl), by (with_reducible repeat (first | apply Kd.R_alloc | apply Kd.R_drewN | apply Kd.R_drew)); exact HO399.out, by repeat (first | (with_reducible first | exact HB.out | apply below_alloc | apply pw_below_drewN | apply below_drew1 | refine below_set ?_ GE387.out) | exact HB.out)⟩

-- NOT PRINTED: function 76 (impl_Move)

/-! ### impl_MoveOf_idx: functions 76 and 77 (by hand) -/
theorem impl_MoveOf_idx.lit (x : S64)  (a1 : Int) (a2 : Bool) (a3 : Int) (W : World)   {B1_ B2_ B3_ : Nat} (hB1_ : W.heap[B1_]? = some (.cells #[.int .i64 a1] 3 (0, 0))) (hB2_ : W.heap[B2_]? = some (.cells #[.bool a2] 4 (0, 0))) (hB3_ : W.heap[B3_]? = some (.cells #[.int .i64 a3] 3 (0, 0))) :
  Calls Try.prog 77 #[.agg #[.int .i64 x.f0, .bool x.f1, .int .i64 x.f2, .int .i64 x.f3], .pointer (some ⟨B1_, 0, none⟩), .pointer (some ⟨B2_, 0, none⟩), .pointer (some ⟨B3_, 0, none⟩)] W fun e w' => e = .returned (.bool (x.f0 == a1 && (x.f1 == a2 && x.f2 == a3))) ∧ Below W.heap.size W w' := by
 have hcl1_0 : W.cell? ⟨B1_, 0, none⟩ = some (.int .i64 a1) := (blk_cell hB1_ 0).trans rfl
 have hbk1_ := blk_lt hB1_
 have hcl2_0 : W.cell? ⟨B2_, 0, none⟩ = some (.bool a2) := (blk_cell hB2_ 0).trans rfl
 have hbk2_ := blk_lt hB2_
 have hcl3_0 : W.cell? ⟨B3_, 0, none⟩ = some (.int .i64 a3) := (blk_cell hB3_ 0).trans rfl
 have hbk3_ := blk_lt hB3_
 have hu64 := Try.underlying64
 go_enter Try.func77, Try.ntmps77
 cases q1 : (x.f0 == a1) <;> cases q2 : (x.f1 == a2) <;> cases q3 : (x.f2 == a3) <;> (go_wp2; go_ret; exact ⟨by first | rfl | (simp_all; done), by repeat (first | exact Below.refl _ _ | apply below_alloc | apply pw_below_drewN | apply below_drew1)⟩)
set_option maxHeartbeats 4000000 in
set_option maxRecDepth 100000 in
theorem impl_MoveOf_idx.idx (A0 : Option Addr) (c0 : Nat) (l0 : List (S64)) (a1 : Int) (a2 : Bool) (a3 : Int) (w : World) (hr0 : Kd.C k64 w A0 l0.length l0) (hc0 : l0.length ≤ c0)  {B1_ B2_ B3_ : Nat} (hB1_ : w.heap[B1_]? = some (.cells #[.int .i64 a1] 3 (0, 0))) (hB2_ : w.heap[B2_]? = some (.cells #[.bool a2] 4 (0, 0))) (hB3_ : w.heap[B3_]? = some (.cells #[.int .i64 a3] 3 (0, 0))) :
  Calls Try.prog 76 #[.slice A0 l0.length c0, .func (.func 77) #[] #[.pointer (some ⟨B1_, 0, none⟩), .pointer (some ⟨B2_, 0, none⟩), .pointer (some ⟨B3_, 0, none⟩)]] w fun e w' => e = .returned (.int .i64 (idxOf (fun x => x.f0 == a1 && (x.f1 == a2 && x.f2 == a3)) l0)) ∧ Below w.heap.size w w' := by
 have hu64 := Try.underlying64
 have HL_ := Aside0.mk hr0.2.1
 have HR0 := Aside0.mk hr0
 have HhB1_ := Aside0.mk hB1_
 have HhB2_ := Aside0.mk hB2_
 have HhB3_ := Aside0.mk hB3_
 obtain ⟨m_, hm_⟩ : ∃ m_ : Int, m_ = idxOf (fun x => x.f0 == a1 && (x.f1 == a2 && x.f2 == a3)) l0 := ⟨_, rfl⟩
 rw [← hm_]
 have HM_ := Aside0.mk hm_
 clear hr0 hc0 hm_ hB1_ hB2_ hB3_
 go_enter Try.func76, Try.ntmps76
 go_wp2
 go_loopg [5, 8] l0.length (fun gg _ s8 wr => ∃ kk : Int, 0 ≤ kk ∧ kk ≤ l0.length ∧ l0.length - kk.toNat ≤ gg ∧ s8 = .int .i64 kk ∧ Aside0 (Below w.heap.size w wr) ∧ Aside0 (m_ = idxAt (fun x => x.f0 == a1 && (x.f1 == a2 && x.f2 == a3)) l0 kk))
 case atStart => exact ⟨0, by omega, by omega, by omega, rfl, ⟨Below.refl _ w⟩, ⟨by rw [HM_.out, idxAt_zero]⟩⟩
 case round =>
  obtain ⟨kk, h0, hkk, hg, rfl, BW, A_⟩ := hrel
  by_cases hlt : kk < (l0.length : Int)
  ·obtain ⟨ad, e_, hx0, hx1, hx2, hx3⟩ := at_T64 HR0.out kk h0 hlt
   cases e_
   replace hx0 := cell_later BW.out hx0
   replace hx1 := cell_later BW.out hx1
   replace hx2 := cell_later BW.out hx2
   replace hx3 := cell_later BW.out hx3
   have hlit := impl_MoveOf_idx.lit (rd_T64 l0 kk)  a1 a2 a3 wr  (blk_below HhB1_.out BW.out) (blk_below HhB2_.out BW.out) (blk_below HhB3_.out BW.out)
   have HLIT := Aside0.mk hlit
   clear hlit 
   obtain ⟨b, hb⟩ : ∃ b : Bool, b = (fun x : S64 => x.f0 == a1 && (x.f1 == a2 && x.f2 == a3)) (rd_T64 l0 kk) := ⟨_, rfl⟩
   have HQ := Aside0.mk hb
   replace HLIT : Aside0 (Calls Try.prog 77 #[.agg #[.int .i64 ((rd_T64 l0 kk).f0), .bool ((rd_T64 l0 kk).f1), .int .i64 ((rd_T64 l0 kk).f2), .int .i64 ((rd_T64 l0 kk).f3)], .pointer (some ⟨B1_, 0, none⟩), .pointer (some ⟨B2_, 0, none⟩), .pointer (some ⟨B3_, 0, none⟩)] wr fun e w' => e = .returned (.bool b) ∧ Below wr.heap.size wr w') := by rw [hb]; exact HLIT
   clear hb
   cases b with
   | true =>
    go_wp2_with (go_at_call 77; refine HLIT.out.mono ?_; rintro e w' ⟨rfl, hb'⟩)
    go_ret
    exact ⟨ret_int (by rw [A_.out]; exact (idxAt_hit (fun x => x.f0 == a1 && (x.f1 == a2 && x.f2 == a3)) l0 z64 kk h0 hlt HQ.out.symm).symm), below_trans BW.out hb'⟩
   | false =>
    go_wp2_with (go_at_call 77; refine HLIT.out.mono ?_; rintro e w' ⟨rfl, hb'⟩)
    have hw1 := wrap_kk h0 hlt HL_.out
    go_roundg (l0.length - (kk.toNat + 1))
    case measure => omega
    case rel => exact ⟨kk + 1, by omega, by omega, by omega, by first | rfl | (rw [hw1]) | (simp only [hw1]), ⟨below_trans BW.out hb'⟩, ⟨by rw [A_.out]; exact idxAt_go (fun x => x.f0 == a1 && (x.f1 == a2 && x.f2 == a3)) l0 z64 kk h0 hlt HQ.out.symm⟩⟩
  ·go_wp2
   go_ret
   exact ⟨ret_int (by rw [A_.out]; exact (idxAt_end _ _ _ (by omega)).symm), BW.out⟩
def impl_MoveOf_idx.f (l0 : List (S64)) (a1 : Int) (a2 : Bool) (a3 : Int) : Option (Int) := some (idxOf (fun x => x.f0 == a1 && (x.f1 == a2 && x.f2 == a3)) l0)
theorem impl_MoveOf_idx.calls (A0 : Option Addr) (c0 : Nat) (l0 : List (S64)) (a1 : Int) (a2 : Bool) (a3 : Int) (r : Int) (w : World) (hr0 : Kd.C k64 w A0 l0.length l0) (hc0 : l0.length ≤ c0)  {B1_ B2_ B3_ : Nat} (hB1_ : w.heap[B1_]? = some (.cells #[.int .i64 a1] 3 (0, 0))) (hB2_ : w.heap[B2_]? = some (.cells #[.bool a2] 4 (0, 0))) (hB3_ : w.heap[B3_]? = some (.cells #[.int .i64 a3] 3 (0, 0))) (h : impl_MoveOf_idx.f l0 a1 a2 a3 = some r) :
  Calls Try.prog 76 #[.slice A0 l0.length c0, .func (.func 77) #[] #[.pointer (some ⟨B1_, 0, none⟩), .pointer (some ⟨B2_, 0, none⟩), .pointer (some ⟨B3_, 0, none⟩)]] w fun e w' => e = .returned (.int .i64 r) ∧ Below w.heap.size w w' := by
 obtain rfl := Option.some.inj h
 have HX := Aside0.mk (impl_MoveOf_idx.idx A0 c0 l0 a1 a2 a3 w hr0 hc0 hB1_ hB2_ hB3_)
 exact HX.out
/-! ### impl_MoveOf: function 65 -/
def impl_MoveOf.f (a0_0 : Int) (l0_1 : List Bool) (l0_2 : List (S64)) (a1 : Int) (a2 : Bool) (a3 : Int) : Option (Int) := (impl_MoveOf_idx.f l0_2 a1 a2 a3).bind fun t404 => (some t404)
set_option maxHeartbeats 8000000 in
set_option maxRecDepth 100000 in
theorem impl_MoveOf.calls (a0_0 : Int) (A0_1 : Option Addr) (c0_1 : Nat) (l0_1 : List Bool) (A0_2 : Option Addr) (c0_2 : Nat) (l0_2 : List (S64)) (a1 : Int) (a2 : Bool) (a3 : Int) (r : Int) (w : World) (hr0_1 : Kd.C Kd.bool w A0_1 l0_1.length l0_1) (hc0_1 : l0_1.length ≤ c0_1) (hr0_2 : Kd.C k64 w A0_2 l0_2.length l0_2) (hc0_2 : l0_2.length ≤ c0_2) (h : impl_MoveOf.f a0_0 l0_1 l0_2 a1 a2 a3 = some r) :
  Calls Try.prog 65 #[.agg #[.int .i64 a0_0, .slice A0_1 l0_1.length c0_1, .slice A0_2 l0_2.length c0_2], .int .i64 a1, .bool a2, .int .i64 a3] w fun e w' => e = .returned (.int .i64 r) ∧ Below w.heap.size w w' := by
 have hu31 := Try.underlying31
 have HR0_1 := Aside0.mk hr0_1
 have HC0_1 := Aside0.mk hc0_1
 clear hr0_1 hc0_1
 have HR0_2 := Aside0.mk hr0_2
 have HC0_2 := Aside0.mk hc0_2
 clear hr0_2 hc0_2
 have HB := Aside0.mk (Below.refl w.heap.size w)
 have H : ((impl_MoveOf_idx.f l0_2 a1 a2 a3).bind fun t404 => (some t404)) = some r := h
 clear h
 replace H := Option.bind_eq_some_iff.mp H
 obtain ⟨t404, A50, H⟩ := H
 replace H : (some t404) = some r := H
 have A5 := Aside0.mk A50
 clear A50
 obtain rfl := Option.some.inj H
 go_enter Try.func65, Try.ntmps65
 go_wp2_with (first | ((with_reducible refine gate_dst (N := 4) rfl ?_); refine box_event ?hg (N := 4) ?hd (cs := #[.int .i64 a0_0, .slice A0_1 l0_1.length c0_1, .slice A0_2 l0_2.length c0_2]) (t := 31) ?hr ?_; (case hd => rfl); (case hg => rfl); (case hr => first | (go_simp; done) | (go_simp; rfl)); intro gb400 hg w6 hbox hb; have n0_ := bS HB hb; have n1_ := Aside0.mk (hbox); have n2_ := gS HB hg; have n3_ := gS HB hg; clear HB; have HB := n0_; have BK400 := n1_; have GW400 := n2_; have GE400 := n3_; clear n0_ n1_ n2_ n3_; clear hb hbox hg) | ((with_reducible refine gate_dst (N := 5) rfl ?_); refine box_event ?hg (N := 5) ?hd (cs := #[.int .i64 a1]) (t := 3) ?hr ?_; (case hd => rfl); (case hg => rfl); (case hr => first | (go_simp; done) | (go_simp; rfl)); intro gb401 hg w7 hbox hb; have n0_ := kB BK400 hb; have n1_ := bS HB hb; have n2_ := Aside0.mk (hbox); have n3_ := gS HB hg; have n4_ := gS HB hg; have n5_ := Aside0.mk ((by rw [hg]; exact Nat.ne_of_lt (blk_lt (g := gb400) (o := .cells #[.int .i64 a0_0, .slice A0_1 l0_1.length c0_1, .slice A0_2 l0_2.length c0_2] 31 (0, 0)) (zK BK400)) : gb400 ≠ gb401)); have n6_ := Aside0.mk ((by rw [hg]; exact Nat.ne_of_gt (blk_lt (g := gb400) (o := .cells #[.int .i64 a0_0, .slice A0_1 l0_1.length c0_1, .slice A0_2 l0_2.length c0_2] 31 (0, 0)) (zK BK400)) : gb401 ≠ gb400)); clear BK400; clear HB; have BK400 := n0_; have HB := n1_; have BK401 := n2_; have GW401 := n3_; have GE401 := n4_; have NB400_401 := n5_; have NB401_400 := n6_; clear n0_ n1_ n2_ n3_ n4_ n5_ n6_; clear hb hbox hg) | ((with_reducible refine gate_dst (N := 6) rfl ?_); refine box_event ?hg (N := 6) ?hd (cs := #[.bool a2]) (t := 4) ?hr ?_; (case hd => rfl); (case hg => rfl); (case hr => first | (go_simp; done) | (go_simp; rfl)); intro gb402 hg w8 hbox hb; have n0_ := kB BK400 hb; have n1_ := kB BK401 hb; have n2_ := bS HB hb; have n3_ := Aside0.mk (hbox); have n4_ := gS HB hg; have n5_ := gS HB hg; have n6_ := Aside0.mk ((by rw [hg]; exact Nat.ne_of_lt (blk_lt (g := gb400) (o := .cells #[.int .i64 a0_0, .slice A0_1 l0_1.length c0_1, .slice A0_2 l0_2.length c0_2] 31 (0, 0)) (zK BK400)) : gb400 ≠ gb402)); have n7_ := Aside0.mk ((by rw [hg]; exact Nat.ne_of_gt (blk_lt (g := gb400) (o := .cells #[.int .i64 a0_0, .slice A0_1 l0_1.length c0_1, .slice A0_2 l0_2.length c0_2] 31 (0, 0)) (zK BK400)) : gb402 ≠ gb400)); have n8_ := Aside0.mk ((by rw [hg]; exact Nat.ne_of_lt (blk_lt (g := gb401) (o := .cells #[.int .i64 a1] 3 (0, 0)) (zK BK401)) : gb401 ≠ gb402)); have n9_ := Aside0.mk ((by rw [hg]; exact Nat.ne_of_gt (blk_lt (g := gb401) (o := .cells #[.int .i64 a1] 3 (0, 0)) (zK BK401)) : gb402 ≠ gb401)); clear BK400; clear BK401; clear HB; have BK400 := n0_; have BK401 := n1_; have HB := n2_; have BK402 := n3_; have GW402 := n4_; have GE402 := n5_; have NB400_402 := n6_; have NB402_400 := n7_; have NB401_402 := n8_; have NB402_401 := n9_; clear n0_ n1_ n2_ n3_ n4_ n5_ n6_ n7_ n8_ n9_; clear hb hbox hg) | ((with_reducible refine gate_dst (N := 7) rfl ?_); refine box_event ?hg (N := 7) ?hd (cs := #[.int .i64 a3]) (t := 3) ?hr ?_; (case hd => rfl); (case hg => rfl); (case hr => first | (go_simp; done) | (go_simp; rfl)); intro gb403 hg w9 hbox hb; have n0_ := kB BK400 hb; have n1_ := kB BK401 hb; have n2_ := kB BK402 hb; have n3_ := bS HB hb; have n4_ := Aside0.mk (hbox); have n5_ := gS HB hg; have n6_ := gS HB hg; have n7_ := Aside0.mk ((by rw [hg]; exact Nat.ne_of_lt (blk_lt (g := gb400) (o := .cells #[.int .i64 a0_0, .slice A0_1 l0_1.length c0_1, .slice A0_2 l0_2.length c0_2] 31 (0, 0)) (zK BK400)) : gb400 ≠ gb403)); have n8_ := Aside0.mk ((by rw [hg]; exact Nat.ne_of_gt (blk_lt (g := gb400) (o := .cells #[.int .i64 a0_0, .slice A0_1 l0_1.length c0_1, .slice A0_2 l0_2.length c0_2] 31 (0, 0)) (zK BK400)) : gb403 ≠ gb400)); have n9_ := Aside0.mk ((by rw [hg]; exact Nat.ne_of_lt (blk_lt (g := gb401) (o := .cells #[.int .i64 a1] 3 (0, 0)) (zK BK401)) : gb401 ≠ gb403)); have n10_ := Aside0.mk ((by rw [hg]; exact Nat.ne_of_gt (blk_lt (g := gb401) (o := .cells #[.int .i64 a1] 3 (0, 0)) (zK BK401)) : gb403 ≠ gb401)); have n11_ := Aside0.mk ((by rw [hg]; exact Nat.ne_of_lt (blk_lt (g := gb402) (o := .cells #[.bool a2] 4 (0, 0)) (zK BK402)) : gb402 ≠ gb403)); have n12_ := Aside0.mk ((by rw [hg]; exact Nat.ne_of_gt (blk_lt (g := gb402) (o := .cells #[.bool a2] 4 (0, 0)) (zK BK402)) : gb403 ≠ gb402)); clear BK400; clear BK401; clear BK402; clear HB; have BK400 := n0_; have BK401 := n1_; have BK402 := n2_; have HB := n3_; have BK403 := n4_; have GW403 := n5_; have GE403 := n6_; have NB400_403 := n7_; have NB403_400 := n8_; have NB401_403 := n9_; have NB403_401 := n10_; have NB402_403 := n11_; have NB403_402 := n12_; clear n0_ n1_ n2_ n3_ n4_ n5_ n6_ n7_ n8_ n9_ n10_ n11_ n12_; clear hb hbox hg; have hnb10 := NB400_401.out; have hnc10 := NB401_400.out; have hnb11 := NB400_402.out; have hnc11 := NB402_400.out; have hnb12 := NB400_403.out; have hnc12 := NB403_400.out; have hcz13_0 := bc0 BK400; have hcz13_1 := bc1 BK400; have hcz13_2 := bc2 BK400; have hfz13_0 := bf BK400 0; have hfz13_1 := bf BK400 1; have hfz13_2 := bf BK400 2) | ((with_reducible refine gate_callee (f := 76) rfl ?_); refine goesL_ (some 12) rfl rfl Try.func76 (by kernel_rfl) rfl #[.slice A0_2 l0_2.length c0_2, .func (.func 77) #[] #[.pointer (some ⟨gb401, 0, none⟩), .pointer (some ⟨gb402, 0, none⟩), .pointer (some ⟨gb403, 0, none⟩)]] rfl zG ?_; (with_reducible refine (impl_MoveOf_idx.calls _ _ l0_2 a1 a2 a3 t404 _ ?side1 ?side2 ?side3 ?side4 ?side5 A5.out).mono ?_); (case side1 => exact cS HR0_2 HB); (case side2 => exact HC0_2.out); (case side3 => exact (fun h_ => h_) (zK BK401)); (case side4 => exact (fun h_ => h_) (zK BK402)); (case side5 => exact (fun h_ => h_) (zK BK403)); rintro e w14 ⟨rfl, hb⟩; refine ⟨_, rfl, ?_⟩; have n0_ := kB BK400 hb; have n1_ := kB BK401 hb; have n2_ := kB BK402 hb; have n3_ := kB BK403 hb; have n4_ := bS HB hb; clear BK400; clear BK401; clear BK402; clear BK403; clear HB; have BK400 := n0_; have BK401 := n1_; have BK402 := n2_; have BK403 := n3_; have HB := n4_; clear n0_ n1_ n2_ n3_ n4_; (try clear hb)))
 go_ret
 exact ⟨by first | rfl | (simp [errW_none, errW_some] <;> rfl) | (simp [*, errW_none, errW_some] <;> rfl), by repeat (first | (with_reducible first | exact HB.out | apply below_alloc | apply pw_below_drewN | apply below_drew1 | refine below_set ?_ GE400.out | refine below_set ?_ GE401.out | refine below_set ?_ GE402.out | refine below_set ?_ GE403.out) | exact HB.out)⟩

end Go.Proofs.Ytmenijbpglknbaa.PFnExactIsSafe
