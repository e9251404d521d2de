-- WRITTEN by pp.py, this session's own wrapper around the print; not trusted: Lean checks it
import Derived.Test.YtmenijbpglknbaaPFnExactIsSafex0
import Derived.Test.YtmenijbpglknbaaPFnExactIsSafex5
import Derived.Test.YtmenijbpglknbaaPFnExactIsSafex8
import Derived.Test.YtmenijbpglknbaaPFnExactIsSafex9
namespace Go.Proofs.Ytmenijbpglknbaa.PFnExactIsSafe
open Go.RowKit Go.Proofs.Ytmenijbpglknbaa.Hw Go.Proofs.YtmenijbpglknbaaW.PrintWords Go.Proofs.YtmenijbpglknbaaW.PrintLast Go.Proofs.YtmenijbpglknbaaW.PrintMore
attribute [local go_sem] max2_int min2_int max_two min_two max_three min_three max_four min_four   -- for this text's walks alone
set_option linter.unusedVariables false
set_option linter.unusedSimpArgs false
set_option linter.unusedSectionVars false

/-! ### spec_FirstTrouble: function 20 -/
def spec_FirstTrouble.l0 : Nat → List (List Int) → Int → Int → List Bool → List (S64) → Int → List Bool → List (S64) → Option (List Int)
 | 0, _, _, _, _, _, _, _, _ => none
 | k + 1, x5, x6, x292000, x292001, x292002, x293000, x293001, x293002 => if x6 < (x5.length : Int) then (if 0 ≤ x6 then (if 0 < ((rd_L4 x5 x6).length : Int) then (if 1 < ((rd_L4 x5 x6).length : Int) then ((spec_TroubleAt.f k x292000 x292001 x292002 x293000 x293001 x293002 (rd (rd_L4 x5 x6) 0) (rd (rd_L4 x5 x6) 1)).bind fun t300 => (if t300 = 0 then (spec_FirstTrouble.l0 k x5 (wrap64 (x6 + 1)) x292000 x292001 x292002 x293000 x293001 x293002) else ((some (([] : List Int) : List Int)).bind fun y301 => (if y301.length + (rd_L4 x5 x6).length < 17592186044416 then (some (y301 ++ (rd_L4 x5 x6))) else (none))))) else (none)) else (none)) else (none)) else (some (([] : List Int)))
def spec_FirstTrouble.f (k : Nat) (a0_0 : Int) (l0_1 : List Bool) (l0_2 : List (S64)) (a1_0 : Int) (l1_1 : List Bool) (l1_2 : List (S64)) : Option (List Int) := (spec_PairsOf.f k a0_0 l0_1 l0_2 a1_0 l1_1 l1_2).bind fun t293 => (spec_FirstTrouble.l0 k t293 0 a0_0 l0_1 l0_2 a1_0 l1_1 l1_2)
theorem spec_FirstTrouble.mono_l : ∀ k, (∀ y0 y1 y2 y3 y4 y5 y6 y7, LeO (spec_FirstTrouble.l0 k y0 y1 y2 y3 y4 y5 y6 y7) (spec_FirstTrouble.l0 (k + 1) y0 y1 y2 y3 y4 y5 y6 y7))
 | 0 => fun _ _ _ _ _ _ _ _ r h => by simp [spec_FirstTrouble.l0] at h
 | k + 1 => by
  have ih0 := spec_FirstTrouble.mono_l k
  ·intro y0 y1 y2 y3 y4 y5 y6 y7
   unfold spec_FirstTrouble.l0
   repeat' first
   | (with_reducible exact ih0 _ _ _ _ _ _ _ _)
   | (with_reducible exact spec_PairsOf.mono _ _ _ _ _ _ _)
   | (with_reducible exact spec_TroubleAt.mono _ _ _ _ _ _ _ _ _)
   | (with_reducible exact LeO.refl _)
   | (with_reducible exact LeO.none _)
   | (with_reducible refine LeO.ite ?_ ?_)
   | (with_reducible refine LeO.bind ?_ (fun _ => ?_))
   | exact ih0 _ _ _ _ _ _ _ _
   | exact spec_PairsOf.mono _ _ _ _ _ _ _
   | exact spec_TroubleAt.mono _ _ _ _ _ _ _ _ _
   | exact LeO.none _
   | refine LeO.ite ?_ ?_
   | refine LeO.bind ?_ (fun _ => ?_)
theorem spec_FirstTrouble.mono : ∀ a0 a1 a2 a3 a4 a5 k, LeO (spec_FirstTrouble.f k a0 a1 a2 a3 a4 a5) (spec_FirstTrouble.f (k + 1) a0 a1 a2 a3 a4 a5) := by
 intro a0 a1 a2 a3 a4 a5 k
 have ih0 := spec_FirstTrouble.mono_l k
 unfold spec_FirstTrouble.f
 repeat' first
   | (with_reducible exact ih0 _ _ _ _ _ _ _ _)
   | (with_reducible exact spec_PairsOf.mono _ _ _ _ _ _ _)
   | (with_reducible exact spec_TroubleAt.mono _ _ _ _ _ _ _ _ _)
   | (with_reducible exact LeO.refl _)
   | (with_reducible exact LeO.none _)
   | (with_reducible refine LeO.ite ?_ ?_)
   | (with_reducible refine LeO.bind ?_ (fun _ => ?_))
   | exact ih0 _ _ _ _ _ _ _ _
   | exact spec_PairsOf.mono _ _ _ _ _ _ _
   | exact spec_TroubleAt.mono _ _ _ _ _ _ _ _ _
   | exact LeO.none _
   | refine LeO.ite ?_ ?_
   | refine LeO.bind ?_ (fun _ => ?_)
def spec_FirstTrouble.T5 : Bool × List (List Nat × List Nat) := (true, [([], []), ([], []), ([], []), ([], []), ([2, 3], [2, 3]), ([4], [4]), ([5], [5]), ([6], [6]), ([], []), ([], []), ([8, 9], [8, 9]), ([10], [10]), ([11], [11]), ([12], [12]), ([0, 1, 7, 13], [0, 1, 7, 13]), ([14], [14])])
def spec_FirstTrouble.B5 : List Nat := [0, 0, 0, 0, 12, 28, 60, 124, 0, 0, 768, 1792, 3840, 7936, 16383, 32767]
theorem spec_FirstTrouble.tab5 : rtab .any (opsOf Try.f20 5) = spec_FirstTrouble.T5 := by kernel_rfl
theorem spec_FirstTrouble.bits5 : waitsOk spec_FirstTrouble.T5.2 spec_FirstTrouble.B5 = true := by kernel_rfl
set_option maxHeartbeats 8000000 in
set_option maxRecDepth 100000 in
theorem spec_FirstTrouble.calls (k : Nat) (a0_0 : Int) (A0_1 : Option Addr) (c0_1 : Nat) (l0_1 : List Bool) (A0_2 : Option Addr) (c0_2 : Nat) (l0_2 : List (S64)) (a1_0 : Int) (A1_1 : Option Addr) (c1_1 : Nat) (l1_1 : List Bool) (A1_2 : Option Addr) (c1_2 : Nat) (l1_2 : List (S64)) (r : List Int) (w : World) (hr0_1 : Kd.C Kd.bool w A0_1 l0_1.length l0_1) (hc0_1 : l0_1.length ≤ c0_1) (hr0_2 : Kd.C k64 w A0_2 l0_2.length l0_2) (hc0_2 : l0_2.length ≤ c0_2) (hr1_1 : Kd.C Kd.bool w A1_1 l1_1.length l1_1) (hc1_1 : l1_1.length ≤ c1_1) (hr1_2 : Kd.C k64 w A1_2 l1_2.length l1_2) (hc1_2 : l1_2.length ≤ c1_2) (h : spec_FirstTrouble.f k a0_0 l0_1 l0_2 a1_0 l1_1 l1_2 = some r) :
  Calls Try.prog 20 #[.agg #[.int .i64 a0_0, .slice A0_1 l0_1.length c0_1, .slice A0_2 l0_2.length c0_2], .agg #[.int .i64 a1_0, .slice A1_1 l1_1.length c1_1, .slice A1_2 l1_2.length c1_2]] w fun e w' => ∃ v0_ : Value, e = .returned (v0_) ∧ Kd.R (Kd.int .i64) 3 w' w.heap.size (fun _ => True) v0_ r ∧ Below w.heap.size w w' := by
 have hu31 := Try.underlying31
 have HR0_1 := Aside0.mk hr0_1
 have HC0_1 := Aside0.mk hc0_1
 clear hr0_1 hc0_1
 have HR0_2 := Aside0.mk hr0_2
 have HC0_2 := Aside0.mk hc0_2
 clear hr0_2 hc0_2
 have HR1_1 := Aside0.mk hr1_1
 have HC1_1 := Aside0.mk hc1_1
 clear hr1_1 hc1_1
 have HR1_2 := Aside0.mk hr1_2
 have HC1_2 := Aside0.mk hc1_2
 clear hr1_2 hc1_2
 have HB := Aside0.mk (Below.refl w.heap.size w)
 have H : ((spec_PairsOf.f k a0_0 l0_1 l0_2 a1_0 l1_1 l1_2).bind fun t293 => (spec_FirstTrouble.l0 k t293 0 a0_0 l0_1 l0_2 a1_0 l1_1 l1_2)) = some r := h
 clear h
 replace H := Option.bind_eq_some_iff.mp H
 obtain ⟨t293, A30, H⟩ := H
 replace H : (spec_FirstTrouble.l0 k t293 0 a0_0 l0_1 l0_2 a1_0 l1_1 l1_2) = some r := H
 have A3 := Aside0.mk A30
 clear A30
 have H' := Aside0.mk H
 clear H
 go_enter Try.func20, Try.ntmps20
 go_wp2_with (first | ((with_reducible refine gate_dst (N := 2) rfl ?_); refine box_event ?hg (N := 2) ?hd (cs := #[.int .i64 a0_0, .slice A0_1 l0_1.length c0_1, .slice A0_2 l0_2.length c0_2]) (t := 31) ?hr ?_; (case hd => rfl); (case hg => rfl); (case hr => first | (go_simp; done) | (go_simp; rfl)); intro gb291 hg w4 hbox hb; have n0_ := bS HB hb; have n1_ := Aside0.mk (hbox); have n2_ := gS HB hg; have n3_ := gS HB hg; clear HB; have HB := n0_; have BK291 := n1_; have GW291 := n2_; have GE291 := n3_; clear n0_ n1_ n2_ n3_; clear hb hbox hg) | ((with_reducible refine gate_dst (N := 3) rfl ?_); refine box_event ?hg (N := 3) ?hd (cs := #[.int .i64 a1_0, .slice A1_1 l1_1.length c1_1, .slice A1_2 l1_2.length c1_2]) (t := 31) ?hr ?_; (case hd => rfl); (case hg => rfl); (case hr => first | (go_simp; done) | (go_simp; rfl)); intro gb292 hg w5 hbox hb; have n0_ := kB BK291 hb; have n1_ := bS HB hb; have n2_ := Aside0.mk (hbox); have n3_ := gS HB hg; have n4_ := gS HB hg; have n5_ := Aside0.mk ((by rw [hg]; exact Nat.ne_of_lt (blk_lt (g := gb291) (o := .cells #[.int .i64 a0_0, .slice A0_1 l0_1.length c0_1, .slice A0_2 l0_2.length c0_2] 31 (0, 0)) (zK BK291)) : gb291 ≠ gb292)); have n6_ := Aside0.mk ((by rw [hg]; exact Nat.ne_of_gt (blk_lt (g := gb291) (o := .cells #[.int .i64 a0_0, .slice A0_1 l0_1.length c0_1, .slice A0_2 l0_2.length c0_2] 31 (0, 0)) (zK BK291)) : gb292 ≠ gb291)); clear BK291; clear HB; have BK291 := n0_; have HB := n1_; have BK292 := n2_; have GW292 := n3_; have GE292 := n4_; have NB291_292 := n5_; have NB292_291 := n6_; clear n0_ n1_ n2_ n3_ n4_ n5_ n6_; clear hb hbox hg; have hnb6 := NB291_292.out; have hnc6 := NB292_291.out; have hcz7_0 := bc0 BK291; have hcz7_1 := bc1 BK291; have hcz7_2 := bc2 BK291; have hfz7_0 := bf BK291 0; have hfz7_1 := bf BK291 1; have hfz7_2 := bf BK291 2; have hcz8_0 := bc0 BK292; have hcz8_1 := bc1 BK292; have hcz8_2 := bc2 BK292; have hfz8_0 := bf BK292 0; have hfz8_1 := bf BK292 1; have hfz8_2 := bf BK292 2) | ((with_reducible refine gate_callee (f := 10) rfl ?_); refine goesL_ (some 9) rfl rfl Try.func10 (by kernel_rfl) rfl #[.agg #[.int .i64 a0_0, .slice A0_1 l0_1.length c0_1, .slice A0_2 l0_2.length c0_2], .agg #[.int .i64 a1_0, .slice A1_1 l1_1.length c1_1, .slice A1_2 l1_2.length c1_2]] rfl zG ?_; (with_reducible refine (spec_PairsOf.calls k a0_0 _ _ l0_1 _ _ l0_2 a1_0 _ _ l1_1 _ _ l1_2 t293 _ ?side1 ?side2 ?side3 ?side4 ?side5 ?side6 ?side7 ?side8 A3.out).mono ?_); (case side1 => exact cS HR0_1 HB); (case side2 => exact HC0_1.out); (case side3 => exact cS HR0_2 HB); (case side4 => exact HC0_2.out); (case side5 => exact cS HR1_1 HB); (case side6 => exact HC1_1.out); (case side7 => exact cS HR1_2 HB); (case side8 => exact HC1_2.out); rintro e w9 ⟨v294, rfl, ho0, hb⟩; refine ⟨_, rfl, ?_⟩; have n0_ := Aside0.mk (Kd.N_lower (Kd.N_mono (ok' := fun k_ => k_ ≠ gb291 ∧ k_ ≠ gb292) ho0 (fun k_ hk_ => ⟨(Kd.freshB (g := gb291) (o := .cells #[.int .i64 a0_0, .slice A0_1 l0_1.length c0_1, .slice A0_2 l0_2.length c0_2] 31 (0, 0)) (zK BK291) k_ hk_), (Kd.freshB (g := gb292) (o := .cells #[.int .i64 a1_0, .slice A1_1 l1_1.length c1_1, .slice A1_2 l1_2.length c1_2] 31 (0, 0)) (zK BK292) k_ hk_)⟩)) (below_size (zB HB))); have n1_ := kB BK291 hb; have n2_ := kB BK292 hb; have n3_ := bS HB hb; clear BK291; clear BK292; clear HB; have HO295 := n0_; have BK291 := n1_; have BK292 := n2_; have HB := n3_; clear n0_ n1_ n2_ n3_; (try clear hb); (try clear ho0)))
 go_loopg [6] k (fun kq v6 w' => ∃ (x6_1 : Int), v6 = .int .i64 x6_1 ∧ Aside0 (spec_FirstTrouble.l0 kq t293 x6_1 a0_0 l0_1 l0_2 a1_0 l1_1 l1_2 = some r) ∧ Aside0 (kq ≤ k) ∧ Aside0 (Kd.N (Kd.slice 3 (Kd.int .i64)) 38 w' w.heap.size (fun k_ => k_ ≠ gb291 ∧ k_ ≠ gb292) v294 t293) ∧ Aside0 (w'.heap[gb291]? = some (.cells #[.int .i64 a0_0, (.slice A0_1 l0_1.length c0_1), (.slice A0_2 l0_2.length c0_2)] 31 (0, 0))) ∧ Aside0 (w'.heap[gb292]? = some (.cells #[.int .i64 a1_0, (.slice A1_1 l1_1.length c1_1), (.slice A1_2 l1_2.length c1_2)] 31 (0, 0))) ∧ Aside0 (Below w.heap.size w w'))
 case atStart => exact ⟨(0), zF, H', ⟨Nat.le_refl _⟩, ⟨by (with_reducible repeat (first | apply Kd.N_alloc | apply Kd.N_drewN | apply Kd.N_drew)); exact HO295.out⟩, ⟨zK BK291⟩, ⟨zK BK292⟩, ⟨zB HB⟩⟩
 case round =>
  clear H'
  try clear c1
  try clear c2
  try clear p2
  try clear c6
  try clear hcz7_0
  try clear hcz7_1
  try clear hcz7_2
  try clear hcz8_0
  try clear hcz8_1
  try clear hcz8_2
  try clear hfz7_0
  try clear hfz7_1
  try clear hfz7_2
  try clear hfz8_0
  try clear hfz8_1
  try clear hfz8_2
  obtain ⟨x6_1, rfl, HA, HK1, HO_5, BK291, BK292, HB⟩ := hrel
  cases gk with
  | zero => exact absurd HA.out (by simp [spec_FirstTrouble.l0])
  | succ k1 =>
   have H := HA.out
   clear HA
   simp only [spec_FirstTrouble.l0] at H
   by_cases c10 : x6_1 < (t293.length : Int)
   ·rw [if_pos c10] at H
    have c10b0 : decide (x6_1 < (t293.length : Int)) = true := decide_eq_true c10
    clear c10
    by_cases c11 : 0 ≤ x6_1
    ·rw [if_pos c11] at H
     have c11b0 : decide (0 ≤ x6_1) = true := decide_eq_true c11
     clear c11
     by_cases c12 : 0 < ((rd_L4 t293 x6_1).length : Int)
     ·rw [if_pos c12] at H
      have c12b0 : decide (0 < ((rd_L4 t293 x6_1).length : Int)) = true := decide_eq_true c12
      have c12b1 : decide (0 < (rd_L4 t293 x6_1).length) = true := decide_eq_true (by omega)
      clear c12
      by_cases c13 : 1 < ((rd_L4 t293 x6_1).length : Int)
      ·rw [if_pos c13] at H
       have c13b0 : decide (1 < ((rd_L4 t293 x6_1).length : Int)) = true := decide_eq_true c13
       have c13b1 : decide (1 < (rd_L4 t293 x6_1).length) = true := decide_eq_true (by omega)
       clear c13
       replace H := Option.bind_eq_some_iff.mp H
       obtain ⟨t300, A140, H⟩ := H
       replace H : (if t300 = 0 then (spec_FirstTrouble.l0 k1 t293 (wrap64 (x6_1 + 1)) a0_0 l0_1 l0_2 a1_0 l1_1 l1_2) else ((some (([] : List Int) : List Int)).bind fun y301 => (if y301.length + (rd_L4 t293 x6_1).length < 17592186044416 then (some (y301 ++ (rd_L4 t293 x6_1))) else (none)))) = some r := H
       have A14 := Aside0.mk A140
       clear A140
       by_cases c15 : t300 = 0
       ·rw [if_pos c15] at H
        have c15b0 : (t300 == 0) = true := beq_iff_eq.mpr c15
        have c15b1 : (t300 != 0) = false := bne_eq_false_iff_eq.mpr c15
        clear c15
        have H' := Aside0.mk H
        clear H
        obtain ⟨Ao16, co16, eo16⟩ := Kd.N_slice HO_5.out
        subst eo16
        try go_wp2
        have n0_ := Aside0.mk (Kd.N_drew HO_5.out)
        have n1_ := Aside0.mk (blk_drew BK291.out)
        have n2_ := Aside0.mk (blk_drew BK292.out)
        have n3_ := Aside0.mk (below_drew1 HB.out)
        clear HO_5
        clear BK291
        clear BK292
        clear HB
        have HO_5 := n0_
        have BK291 := n1_
        have BK292 := n2_
        have HB := n3_
        clear n0_ n1_ n2_ n3_
        have p296 : 0 ≤ (x6_1 : Int) := of_decide_eq_true (by first | (with_reducible assumption) | assumption)
        have q296 : x6_1 < (t293.length : Int) := of_decide_eq_true (by first | (with_reducible assumption) | assumption)
        obtain ⟨ad296, A296_0, c296_0, e296, hx296_0, hl296_0, hi296_0⟩ := at_L4 (Kd.N_reads' HO_5.out).2.2 x6_1 p296 q296
        cases e296
        obtain ⟨ce296, hce296, hMe296, hcc296⟩ := Kd.N_get HO_5.out [] x6_1 p296 (by first | exact q296 | exact of_decide_eq_true (by first | (with_reducible assumption) | assumption) | (have e_ := (Kd.N_reads' HO_5.out).1; omega))
        obtain ⟨ua296_0, uc296_0, rfl, ul296_0, ge296_0⟩ := Kd.FK_slice_open hMe296
        have hv296_0 := hcc296 0 _ rfl
        rw [Nat.add_zero, show ((Kd.slice 3 (Kd.int .i64))).sz = 1 from rfl, Nat.mul_one] at hv296_0
        replace hv296_0 := Option.some.inj (hv296_0.symm.trans hx296_0)
        injection hv296_0 with hva_ hvn_ hvc_
        rw [hva_] at ge296_0
        rw [hvc_] at ul296_0
        have HL296_0 := Aside0.mk (show Kd.V (Kd.int .i64) 3 _ w.heap.size _ _ (rd_L4 t293 x6_1) from Kd.V_mk ul296_0 ge296_0)
        clear hva_ hvn_ hvc_ ge296_0 ul296_0
        clear hcc296 hce296
        have HR296_0 := Aside0.mk hi296_0
        have HC296_0 := Aside0.mk hl296_0
        clear hi296_0 hl296_0
        replace p296 := eq_true p296
        replace q296 := eq_true q296
        have p297 : 0 ≤ (0 : Int) := (by omega)
        have q297 : 0 < ((rd_L4 t293 x6_1).length : Int) := of_decide_eq_true (by first | (with_reducible assumption) | assumption)
        obtain ⟨ad297, e297, hx297_0⟩ := Kd.at_int (by repeat (first | (with_reducible exact HR296_0.out) | (with_reducible refine Kd.C_alloc ?_ _) | (with_reducible refine Kd.C_drewN ?_ _) | (with_reducible refine Kd.C_drew ?_) | exact HR296_0.out)) 0 p297 q297
        cases e297
        have qi297 : (0 < (rd_L4 t293 x6_1).length) = True := eq_true (by omega)
        (try rw [show ((0 : Int)).toNat = 0 from rfl] at hx297_0)
        (try rw [Addr.add_zero'] at hx297_0)
        replace p297 := eq_true p297
        replace q297 := eq_true q297
        have p298 : 0 ≤ (x6_1 : Int) := of_decide_eq_true (by first | (with_reducible assumption) | assumption)
        have q298 : x6_1 < (t293.length : Int) := of_decide_eq_true (by first | (with_reducible assumption) | assumption)
        obtain ⟨ad298, A298_0, c298_0, e298, hx298_0, hl298_0, hi298_0⟩ := at_L4 (Kd.N_reads' HO_5.out).2.2 x6_1 p298 q298
        obtain rfl : ad296 = ad298 := (by injection e298)
        obtain ⟨ce298, hce298, hMe298, hcc298⟩ := Kd.N_get HO_5.out [] x6_1 p298 (by first | exact q298 | exact of_decide_eq_true (by first | (with_reducible assumption) | assumption) | (have e_ := (Kd.N_reads' HO_5.out).1; omega))
        obtain ⟨ua298_0, uc298_0, rfl, ul298_0, ge298_0⟩ := Kd.FK_slice_open hMe298
        have hv298_0 := hcc298 0 _ rfl
        rw [Nat.add_zero, show ((Kd.slice 3 (Kd.int .i64))).sz = 1 from rfl, Nat.mul_one] at hv298_0
        replace hv298_0 := Option.some.inj (hv298_0.symm.trans hx298_0)
        injection hv298_0 with hva_ hvn_ hvc_
        rw [hva_] at ge298_0
        rw [hvc_] at ul298_0
        have HL298_0 := Aside0.mk (show Kd.V (Kd.int .i64) 3 _ w.heap.size _ _ (rd_L4 t293 x6_1) from Kd.V_mk ul298_0 ge298_0)
        clear hva_ hvn_ hvc_ ge298_0 ul298_0
        clear hcc298 hce298
        have HR298_0 := Aside0.mk hi298_0
        have HC298_0 := Aside0.mk hl298_0
        clear hi298_0 hl298_0
        replace p298 := eq_true p298
        replace q298 := eq_true q298
        have ea_ := Option.some.inj (hx296_0.symm.trans hx298_0)
        injection ea_ with ea_ en_ ec_
        subst ea_
        subst ec_
        clear en_
        have p299 : 0 ≤ (1 : Int) := (by omega)
        have q299 : 1 < ((rd_L4 t293 x6_1).length : Int) := of_decide_eq_true (by first | (with_reducible assumption) | assumption)
        obtain ⟨ad299, e299, hx299_0⟩ := Kd.at_int (by repeat (first | (with_reducible exact HR298_0.out) | (with_reducible refine Kd.C_alloc ?_ _) | (with_reducible refine Kd.C_drewN ?_ _) | (with_reducible refine Kd.C_drew ?_) | exact HR298_0.out)) 1 p299 q299
        cases e299
        (try simp only [show (1 : Int).toNat = 1 from rfl, Nat.reduceMul, Nat.reduceEqDiff, Go.Addr.add, ↓reduceIte] at hx299_0)
        have qi299 : (1 < (rd_L4 t293 x6_1).length) = True := eq_true (by omega)
        (try rw [show ((1 : Int)).toNat = 1 from rfl] at hx299_0)
        replace p299 := eq_true p299
        replace q299 := eq_true q299
        refine start_ (n := 16) (S := fun w' => w'.cell? ⟨gb291, 0, none⟩ = some (.int .i64 a0_0) ∧ w'.cell? ⟨gb291, 1, none⟩ = some (.slice A0_1 l0_1.length c0_1) ∧ w'.cell? ⟨gb291, 2, none⟩ = some (.slice A0_2 l0_2.length c0_2) ∧ w'.cell? ⟨gb292, 0, none⟩ = some (.int .i64 a1_0) ∧ w'.cell? ⟨gb292, 1, none⟩ = some (.slice A1_1 l1_1.length c1_1) ∧ w'.cell? ⟨gb292, 2, none⟩ = some (.slice A1_2 l1_2.length c1_2) ∧ w'.cell? (ad296.add (x6_1).toNat) = some (.slice (some ad297) (rd_L4 t293 x6_1).length c296_0) ∧ w'.cell? ad297 = some (.int .i64 (rd (rd_L4 t293 x6_1) 0)) ∧ w'.cell? (ad296.add (x6_1).toNat) = some (.slice (some ad297) (rd_L4 t293 x6_1).length c296_0) ∧ w'.cell? ⟨ad297.block, ad297.off + 1, none⟩ = some (.int .i64 (rd (rd_L4 t293 x6_1) 1))) (ds := []) (bm 16 0) (by kernel_rfl) rfl (bm0 _) ⟨bc0 BK291, bc1 BK291, bc2 BK291, bc0 BK292, bc1 BK292, bc2 BK292, hx296_0, hx297_0, hx298_0, hx299_0⟩ (fun hHeld => ?_); refine with_tabW spec_FirstTrouble.tab5 spec_FirstTrouble.bits5 (fun HT_ HW_ => ?_)
        generalize wr.drew = w17 at HO_5 BK291 BK292 HB HL296_0 HL298_0 HR296_0 HR298_0 hx296_0 hx297_0 hx298_0 hx299_0 hHeld ⊢
        refine pU 2 (some 18) (bm 16 4) HT_ rfl rfl ?_
        refine pU 3 (some 19) (bm 16 12) HT_ rfl rfl ?_
        refine pU 4 (some 20) (bm 16 28) HT_ rfl rfl ?_
        refine pU 8 (some 24) (bm 16 284) HT_ rfl rfl ?_
        refine pU 9 (some 25) (bm 16 796) HT_ rfl rfl ?_
        refine pU 10 (some 26) (bm 16 1820) HT_ rfl rfl ?_
        refine tU 0 (some 16) (bm 16 1821) HT_ HW_ rfl rfl hHeld ?_
        refine tU 1 (some 17) (bm 16 1823) HT_ HW_ rfl rfl hHeld ?_
        refine tU 5 (some 21) (bm 16 1855) HT_ HW_ rfl rfl hHeld ?_
        refine pU 6 (some 22) (bm 16 1919) HT_ rfl rfl ?_
        refine tU 7 (some 23) (bm 16 2047) HT_ HW_ rfl rfl hHeld ?_
        refine tU 11 (some 27) (bm 16 4095) HT_ HW_ rfl rfl hHeld ?_
        refine pU 12 (some 28) (bm 16 8191) HT_ rfl rfl ?_
        refine tU 13 (some 29) (bm 16 16383) HT_ HW_ rfl rfl hHeld ?_
        refine one_ (i := 14) (N := some 30) (bm 16 32767) rfl rfl (one_of HT_.out (by kernel_rfl)) (by decide) (fun K hK => ?_)
        refine goes_ Try.func53 (by kernel_rfl) rfl #[.agg #[.int .i64 a0_0, .slice A0_1 l0_1.length c0_1, .slice A0_2 l0_2.length c0_2], .agg #[.int .i64 a1_0, .slice A1_1 l1_1.length c1_1, .slice A1_2 l1_2.length c1_2], .int .i64 (rd (rd_L4 t293 x6_1) 0), .int .i64 (rd (rd_L4 t293 x6_1) 1)] (by rfl) rfl rfl zG ?_
        with_reducible refine (spec_TroubleAt.calls k1 a0_0 _ _ l0_1 _ _ l0_2 a1_0 _ _ l1_1 _ _ l1_2 (rd (rd_L4 t293 x6_1) 0) (rd (rd_L4 t293 x6_1) 1) t300 _ ?side1 ?side2 ?side3 ?side4 ?side5 ?side6 ?side7 ?side8 A14.out).mono ?_
        (case side1 => exact cS HR0_1 HB)
        (case side2 => exact HC0_1.out)
        (case side3 => exact cS HR0_2 HB)
        (case side4 => exact HC0_2.out)
        (case side5 => exact cS HR1_1 HB)
        (case side6 => exact HC1_1.out)
        (case side7 => exact cS HR1_2 HB)
        (case side8 => exact HC1_2.out)
        rintro e w18 ⟨rfl, hb⟩
        have HS6_ := (hb.cell (World.block_lt_of_cell? _ _ (hHeld.2.2.2.2.2.2.1))).trans (hHeld.2.2.2.2.2.2.1)
        have HS7_ := (hb.cell (World.block_lt_of_cell? _ _ (hHeld.2.2.2.2.2.2.2.1))).trans (hHeld.2.2.2.2.2.2.2.1)
        have HS8_ := (hb.cell (World.block_lt_of_cell? _ _ (hHeld.2.2.2.2.2.2.2.2.1))).trans (hHeld.2.2.2.2.2.2.2.2.1)
        have HS9_ := (hb.cell (World.block_lt_of_cell? _ _ (hHeld.2.2.2.2.2.2.2.2.2))).trans (hHeld.2.2.2.2.2.2.2.2.2)
        refine ⟨_, rfl, ?_⟩
        have n0_ := Aside0.mk (Kd.N_below (by (with_reducible repeat (first | apply Kd.N_alloc | apply Kd.N_drewN | apply Kd.N_drew)); exact HO_5.out) hb)
        have n1_ := Aside0.mk (Kd.V_below (by (with_reducible repeat (first | apply Kd.V_alloc | apply Kd.V_drewN | apply Kd.V_drew)); exact HL296_0.out) hb)
        have n2_ := Aside0.mk (Kd.V_below (by (with_reducible repeat (first | apply Kd.V_alloc | apply Kd.V_drewN | apply Kd.V_drew)); exact HL298_0.out) hb)
        have n3_ := kB BK291 hb
        have n4_ := kB BK292 hb
        have n5_ := Aside0.mk (Kd.C_below (by repeat (first | (with_reducible exact HR296_0.out) | (with_reducible refine Kd.C_alloc ?_ _) | (with_reducible refine Kd.C_drewN ?_ _) | (with_reducible refine Kd.C_drew ?_) | exact HR296_0.out)) hb)
        have n6_ := Aside0.mk (Kd.C_below (by repeat (first | (with_reducible exact HR298_0.out) | (with_reducible refine Kd.C_alloc ?_ _) | (with_reducible refine Kd.C_drewN ?_ _) | (with_reducible refine Kd.C_drew ?_) | exact HR298_0.out)) hb)
        have n7_ := bS HB hb
        clear HO_5
        clear HL296_0
        clear HL298_0
        clear BK291
        clear BK292
        clear HR296_0
        clear HR298_0
        clear HB
        have HO_5 := n0_
        have HL296_0 := n1_
        have HL298_0 := n2_
        have BK291 := n3_
        have BK292 := n4_
        have HR296_0 := n5_
        have HR298_0 := n6_
        have HB := n7_
        clear n0_ n1_ n2_ n3_ n4_ n5_ n6_ n7_
        (try clear hb)
        (try clear hb2)
        (try clear hk)
        (try clear hi)
        refine hK.out _ _ ⟨bc0 BK291, bc1 BK291, bc2 BK291, bc0 BK292, bc1 BK292, bc2 BK292, HS6_, HS7_, HS8_, HS9_⟩ (fun hHeld => ?_)
        clear hK K
        refine norm_ (a' := ?_) ?_ ?_
        rotate_left
        ·show Act.put _ (some 30) _ = _
         simp only [Act.put, List.setIfInBounds_toArray, List.set_cons_zero, List.set_cons_succ, i64_w, i32_w]
         rfl
        refine pU 15 (some 31) (bm 16 65535) HT_ rfl rfl ?_
        refine done_ (done_of HT_.out (by kernel_rfl)) ?_
        try clear hHeld
        try go_wp2
        go_roundg k1
        case measure => have := HK1.out; omega
        case rel => exact ⟨(wrap64 (x6_1 + 1)), zF, H', ⟨by have := HK1.out; omega⟩, ⟨by (with_reducible repeat (first | apply Kd.N_alloc | apply Kd.N_drewN | apply Kd.N_drew)); exact HO_5.out⟩, ⟨zK BK291⟩, ⟨zK BK292⟩, ⟨zB HB⟩⟩
       ·rw [if_neg c15] at H
        have c15b0 : (t300 == 0) = false := beq_eq_false_iff_ne.mpr c15
        have c15b1 : (t300 != 0) = true := bne_iff_ne.mpr c15
        obtain ⟨y301, hy301⟩ : ∃ y_ : List Int, y_ = (([] : List Int)) := ⟨_, rfl⟩
        replace H : (if y301.length + (rd_L4 t293 x6_1).length < 17592186044416 then (some (y301 ++ (rd_L4 t293 x6_1))) else (none)) = some r := by first | (rw [hy301]; with_reducible exact H) | (have H2_ := (Option.bind_some _ _).symm.trans H; rw [hy301]; with_reducible exact H2_) | (have H2_ := (Option.bind_some _ _).symm.trans H; with_reducible exact H2_) | with_reducible exact H | (rw [hy301]; exact H) | exact H
        have Ny301 := Aside0.mk hy301
        clear hy301
        by_cases c19 : y301.length + (rd_L4 t293 x6_1).length < 17592186044416
        ·rw [if_pos c19] at H
         have LMc19 := Aside0.mk c19
         clear c19
         obtain ⟨y305, hy305⟩ : ∃ y_ : List Int, y_ = (y301 ++ (rd_L4 t293 x6_1)) := ⟨_, rfl⟩
         replace H : (some y305) = some r := by first | (rw [hy305]; with_reducible exact H) | (have H2_ := (Option.bind_some _ _).symm.trans H; rw [hy305]; with_reducible exact H2_) | (have H2_ := (Option.bind_some _ _).symm.trans H; with_reducible exact H2_) | with_reducible exact H | (rw [hy305]; exact H) | exact H
         have Ny305 := Aside0.mk hy305
         clear hy305
         obtain rfl := Option.some.inj H
         obtain ⟨Ao20, co20, eo20⟩ := Kd.N_slice HO_5.out
         subst eo20
         try go_wp2
         have n0_ := Aside0.mk (Kd.N_drew HO_5.out)
         have n1_ := Aside0.mk (blk_drew BK291.out)
         have n2_ := Aside0.mk (blk_drew BK292.out)
         have n3_ := Aside0.mk (below_drew1 HB.out)
         clear HO_5
         clear BK291
         clear BK292
         clear HB
         have HO_5 := n0_
         have BK291 := n1_
         have BK292 := n2_
         have HB := n3_
         clear n0_ n1_ n2_ n3_
         have p296 : 0 ≤ (x6_1 : Int) := of_decide_eq_true (by first | (with_reducible assumption) | assumption)
         have q296 : x6_1 < (t293.length : Int) := of_decide_eq_true (by first | (with_reducible assumption) | assumption)
         obtain ⟨ad296, A296_0, c296_0, e296, hx296_0, hl296_0, hi296_0⟩ := at_L4 (Kd.N_reads' HO_5.out).2.2 x6_1 p296 q296
         cases e296
         obtain ⟨ce296, hce296, hMe296, hcc296⟩ := Kd.N_get HO_5.out [] x6_1 p296 (by first | exact q296 | exact of_decide_eq_true (by first | (with_reducible assumption) | assumption) | (have e_ := (Kd.N_reads' HO_5.out).1; omega))
         obtain ⟨ua296_0, uc296_0, rfl, ul296_0, ge296_0⟩ := Kd.FK_slice_open hMe296
         have hv296_0 := hcc296 0 _ rfl
         rw [Nat.add_zero, show ((Kd.slice 3 (Kd.int .i64))).sz = 1 from rfl, Nat.mul_one] at hv296_0
         replace hv296_0 := Option.some.inj (hv296_0.symm.trans hx296_0)
         injection hv296_0 with hva_ hvn_ hvc_
         rw [hva_] at ge296_0
         rw [hvc_] at ul296_0
         have HL296_0 := Aside0.mk (show Kd.V (Kd.int .i64) 3 _ w.heap.size _ _ (rd_L4 t293 x6_1) from Kd.V_mk ul296_0 ge296_0)
         clear hva_ hvn_ hvc_ ge296_0 ul296_0
         clear hcc296 hce296
         have HR296_0 := Aside0.mk hi296_0
         have HC296_0 := Aside0.mk hl296_0
         clear hi296_0 hl296_0
         replace p296 := eq_true p296
         replace q296 := eq_true q296
         have p297 : 0 ≤ (0 : Int) := (by omega)
         have q297 : 0 < ((rd_L4 t293 x6_1).length : Int) := of_decide_eq_true (by first | (with_reducible assumption) | assumption)
         obtain ⟨ad297, e297, hx297_0⟩ := Kd.at_int (by repeat (first | (with_reducible exact HR296_0.out) | (with_reducible refine Kd.C_alloc ?_ _) | (with_reducible refine Kd.C_drewN ?_ _) | (with_reducible refine Kd.C_drew ?_) | exact HR296_0.out)) 0 p297 q297
         cases e297
         have qi297 : (0 < (rd_L4 t293 x6_1).length) = True := eq_true (by omega)
         (try rw [show ((0 : Int)).toNat = 0 from rfl] at hx297_0)
         (try rw [Addr.add_zero'] at hx297_0)
         replace p297 := eq_true p297
         replace q297 := eq_true q297
         have p298 : 0 ≤ (x6_1 : Int) := of_decide_eq_true (by first | (with_reducible assumption) | assumption)
         have q298 : x6_1 < (t293.length : Int) := of_decide_eq_true (by first | (with_reducible assumption) | assumption)
         obtain ⟨ad298, A298_0, c298_0, e298, hx298_0, hl298_0, hi298_0⟩ := at_L4 (Kd.N_reads' HO_5.out).2.2 x6_1 p298 q298
         obtain rfl : ad296 = ad298 := (by injection e298)
         obtain ⟨ce298, hce298, hMe298, hcc298⟩ := Kd.N_get HO_5.out [] x6_1 p298 (by first | exact q298 | exact of_decide_eq_true (by first | (with_reducible assumption) | assumption) | (have e_ := (Kd.N_reads' HO_5.out).1; omega))
         obtain ⟨ua298_0, uc298_0, rfl, ul298_0, ge298_0⟩ := Kd.FK_slice_open hMe298
         have hv298_0 := hcc298 0 _ rfl
         rw [Nat.add_zero, show ((Kd.slice 3 (Kd.int .i64))).sz = 1 from rfl, Nat.mul_one] at hv298_0
         replace hv298_0 := Option.some.inj (hv298_0.symm.trans hx298_0)
         injection hv298_0 with hva_ hvn_ hvc_
         rw [hva_] at ge298_0
         rw [hvc_] at ul298_0
         have HL298_0 := Aside0.mk (show Kd.V (Kd.int .i64) 3 _ w.heap.size _ _ (rd_L4 t293 x6_1) from Kd.V_mk ul298_0 ge298_0)
         clear hva_ hvn_ hvc_ ge298_0 ul298_0
         clear hcc298 hce298
         have HR298_0 := Aside0.mk hi298_0
         have HC298_0 := Aside0.mk hl298_0
         clear hi298_0 hl298_0
         replace p298 := eq_true p298
         replace q298 := eq_true q298
         have ea_ := Option.some.inj (hx296_0.symm.trans hx298_0)
         injection ea_ with ea_ en_ ec_
         subst ea_
         subst ec_
         clear en_
         have p299 : 0 ≤ (1 : Int) := (by omega)
         have q299 : 1 < ((rd_L4 t293 x6_1).length : Int) := of_decide_eq_true (by first | (with_reducible assumption) | assumption)
         obtain ⟨ad299, e299, hx299_0⟩ := Kd.at_int (by repeat (first | (with_reducible exact HR298_0.out) | (with_reducible refine Kd.C_alloc ?_ _) | (with_reducible refine Kd.C_drewN ?_ _) | (with_reducible refine Kd.C_drew ?_) | exact HR298_0.out)) 1 p299 q299
         cases e299
         (try simp only [show (1 : Int).toNat = 1 from rfl, Nat.reduceMul, Nat.reduceEqDiff, Go.Addr.add, ↓reduceIte] at hx299_0)
         have qi299 : (1 < (rd_L4 t293 x6_1).length) = True := eq_true (by omega)
         (try rw [show ((1 : Int)).toNat = 1 from rfl] at hx299_0)
         replace p299 := eq_true p299
         replace q299 := eq_true q299
         refine start_ (n := 16) (S := fun w' => w'.cell? ⟨gb291, 0, none⟩ = some (.int .i64 a0_0) ∧ w'.cell? ⟨gb291, 1, none⟩ = some (.slice A0_1 l0_1.length c0_1) ∧ w'.cell? ⟨gb291, 2, none⟩ = some (.slice A0_2 l0_2.length c0_2) ∧ w'.cell? ⟨gb292, 0, none⟩ = some (.int .i64 a1_0) ∧ w'.cell? ⟨gb292, 1, none⟩ = some (.slice A1_1 l1_1.length c1_1) ∧ w'.cell? ⟨gb292, 2, none⟩ = some (.slice A1_2 l1_2.length c1_2) ∧ w'.cell? (ad296.add (x6_1).toNat) = some (.slice (some ad297) (rd_L4 t293 x6_1).length c296_0) ∧ w'.cell? ad297 = some (.int .i64 (rd (rd_L4 t293 x6_1) 0)) ∧ w'.cell? (ad296.add (x6_1).toNat) = some (.slice (some ad297) (rd_L4 t293 x6_1).length c296_0) ∧ w'.cell? ⟨ad297.block, ad297.off + 1, none⟩ = some (.int .i64 (rd (rd_L4 t293 x6_1) 1))) (ds := []) (bm 16 0) (by kernel_rfl) rfl (bm0 _) ⟨bc0 BK291, bc1 BK291, bc2 BK291, bc0 BK292, bc1 BK292, bc2 BK292, hx296_0, hx297_0, hx298_0, hx299_0⟩ (fun hHeld => ?_); refine with_tabW spec_FirstTrouble.tab5 spec_FirstTrouble.bits5 (fun HT_ HW_ => ?_)
         generalize wr.drew = w21 at HO_5 BK291 BK292 HB HL296_0 HL298_0 HR296_0 HR298_0 hx296_0 hx297_0 hx298_0 hx299_0 hHeld ⊢
         refine pU 2 (some 18) (bm 16 4) HT_ rfl rfl ?_
         refine pU 3 (some 19) (bm 16 12) HT_ rfl rfl ?_
         refine pU 4 (some 20) (bm 16 28) HT_ rfl rfl ?_
         refine pU 8 (some 24) (bm 16 284) HT_ rfl rfl ?_
         refine pU 9 (some 25) (bm 16 796) HT_ rfl rfl ?_
         refine pU 10 (some 26) (bm 16 1820) HT_ rfl rfl ?_
         refine tU 0 (some 16) (bm 16 1821) HT_ HW_ rfl rfl hHeld ?_
         refine tU 1 (some 17) (bm 16 1823) HT_ HW_ rfl rfl hHeld ?_
         refine tU 5 (some 21) (bm 16 1855) HT_ HW_ rfl rfl hHeld ?_
         refine pU 6 (some 22) (bm 16 1919) HT_ rfl rfl ?_
         refine tU 7 (some 23) (bm 16 2047) HT_ HW_ rfl rfl hHeld ?_
         refine tU 11 (some 27) (bm 16 4095) HT_ HW_ rfl rfl hHeld ?_
         refine pU 12 (some 28) (bm 16 8191) HT_ rfl rfl ?_
         refine tU 13 (some 29) (bm 16 16383) HT_ HW_ rfl rfl hHeld ?_
         refine one_ (i := 14) (N := some 30) (bm 16 32767) rfl rfl (one_of HT_.out (by kernel_rfl)) (by decide) (fun K hK => ?_)
         refine goes_ Try.func53 (by kernel_rfl) rfl #[.agg #[.int .i64 a0_0, .slice A0_1 l0_1.length c0_1, .slice A0_2 l0_2.length c0_2], .agg #[.int .i64 a1_0, .slice A1_1 l1_1.length c1_1, .slice A1_2 l1_2.length c1_2], .int .i64 (rd (rd_L4 t293 x6_1) 0), .int .i64 (rd (rd_L4 t293 x6_1) 1)] (by rfl) rfl rfl zG ?_
         with_reducible refine (spec_TroubleAt.calls k1 a0_0 _ _ l0_1 _ _ l0_2 a1_0 _ _ l1_1 _ _ l1_2 (rd (rd_L4 t293 x6_1) 0) (rd (rd_L4 t293 x6_1) 1) t300 _ ?side1 ?side2 ?side3 ?side4 ?side5 ?side6 ?side7 ?side8 A14.out).mono ?_
         (case side1 => exact cS HR0_1 HB)
         (case side2 => exact HC0_1.out)
         (case side3 => exact cS HR0_2 HB)
         (case side4 => exact HC0_2.out)
         (case side5 => exact cS HR1_1 HB)
         (case side6 => exact HC1_1.out)
         (case side7 => exact cS HR1_2 HB)
         (case side8 => exact HC1_2.out)
         rintro e w22 ⟨rfl, hb⟩
         have HS6_ := (hb.cell (World.block_lt_of_cell? _ _ (hHeld.2.2.2.2.2.2.1))).trans (hHeld.2.2.2.2.2.2.1)
         have HS7_ := (hb.cell (World.block_lt_of_cell? _ _ (hHeld.2.2.2.2.2.2.2.1))).trans (hHeld.2.2.2.2.2.2.2.1)
         have HS8_ := (hb.cell (World.block_lt_of_cell? _ _ (hHeld.2.2.2.2.2.2.2.2.1))).trans (hHeld.2.2.2.2.2.2.2.2.1)
         have HS9_ := (hb.cell (World.block_lt_of_cell? _ _ (hHeld.2.2.2.2.2.2.2.2.2))).trans (hHeld.2.2.2.2.2.2.2.2.2)
         refine ⟨_, rfl, ?_⟩
         have n0_ := Aside0.mk (Kd.N_below (by (with_reducible repeat (first | apply Kd.N_alloc | apply Kd.N_drewN | apply Kd.N_drew)); exact HO_5.out) hb)
         have n1_ := Aside0.mk (Kd.V_below (by (with_reducible repeat (first | apply Kd.V_alloc | apply Kd.V_drewN | apply Kd.V_drew)); exact HL296_0.out) hb)
         have n2_ := Aside0.mk (Kd.V_below (by (with_reducible repeat (first | apply Kd.V_alloc | apply Kd.V_drewN | apply Kd.V_drew)); exact HL298_0.out) hb)
         have n3_ := kB BK291 hb
         have n4_ := kB BK292 hb
         have n5_ := Aside0.mk (Kd.C_below (by repeat (first | (with_reducible exact HR296_0.out) | (with_reducible refine Kd.C_alloc ?_ _) | (with_reducible refine Kd.C_drewN ?_ _) | (with_reducible refine Kd.C_drew ?_) | exact HR296_0.out)) hb)
         have n6_ := Aside0.mk (Kd.C_below (by repeat (first | (with_reducible exact HR298_0.out) | (with_reducible refine Kd.C_alloc ?_ _) | (with_reducible refine Kd.C_drewN ?_ _) | (with_reducible refine Kd.C_drew ?_) | exact HR298_0.out)) hb)
         have n7_ := bS HB hb
         clear HO_5
         clear HL296_0
         clear HL298_0
         clear BK291
         clear BK292
         clear HR296_0
         clear HR298_0
         clear HB
         have HO_5 := n0_
         have HL296_0 := n1_
         have HL298_0 := n2_
         have BK291 := n3_
         have BK292 := n4_
         have HR296_0 := n5_
         have HR298_0 := n6_
         have HB := n7_
         clear n0_ n1_ n2_ n3_ n4_ n5_ n6_ n7_
         (try clear hb)
         (try clear hb2)
         (try clear hk)
         (try clear hi)
         refine hK.out _ _ ⟨bc0 BK291, bc1 BK291, bc2 BK291, bc0 BK292, bc1 BK292, bc2 BK292, HS6_, HS7_, HS8_, HS9_⟩ (fun hHeld => ?_)
         clear hK K
         refine norm_ (a' := ?_) ?_ ?_
         rotate_left
         ·show Act.put _ (some 30) _ = _
          simp only [Act.put, List.setIfInBounds_toArray, List.set_cons_zero, List.set_cons_succ, i64_w, i32_w]
          rfl
         refine pU 15 (some 31) (bm 16 65535) HT_ rfl rfl ?_
         refine done_ (done_of HT_.out (by kernel_rfl)) ?_
         try clear hHeld
         try go_wp2_with (first | ((with_reducible refine gate_dst (N := 32) rfl ?_); refine Kd.R_lit (Kd.int .i64) _ 3 ?hg (N := 32) ?hd (xs := ([] : List Int)) (inner := []) (ok := fun _ => True) (okp := fun _ => True) ?hr ?hp (fun _ hk => hk) trivial (Below.refl _ _) (Nat.le_refl _) (by simp) ?_; (case hd => rfl); (case hg => rfl); (case hr => first | (go_simp; done) | (go_simp; rfl)); (case hp => exact (Reps.none _ _)); intro v302 w23 ho24 hb hg_ hnew_; clear hg_ hnew_; (first | rw [← Ny301.out] at ho24 | (simp only [Int.reduceToNat] at ho24; rw [← Ny301.out] at ho24)); have n0_ := Aside0.mk (Kd.N_elder' (by (with_reducible repeat (first | apply Kd.N_alloc | apply Kd.N_drewN | apply Kd.N_drew)); exact HO_5.out) (Kd.R_base ho24) hb); have n1_ := Aside0.mk (Kd.V_elder' (by (with_reducible repeat (first | apply Kd.V_alloc | apply Kd.V_drewN | apply Kd.V_drew)); exact HL296_0.out) (Kd.R_base ho24) hb); have n2_ := Aside0.mk (Kd.V_elder' (by (with_reducible repeat (first | apply Kd.V_alloc | apply Kd.V_drewN | apply Kd.V_drew)); exact HL298_0.out) (Kd.R_base ho24) hb); have n3_ := Aside0.mk (Kd.R_lower ho24 (below_size (zB HB))); have n4_ := kB BK291 hb; have n5_ := kB BK292 hb; have n6_ := Aside0.mk (Kd.C_below (by repeat (first | (with_reducible exact HR296_0.out) | (with_reducible refine Kd.C_alloc ?_ _) | (with_reducible refine Kd.C_drewN ?_ _) | (with_reducible refine Kd.C_drew ?_) | exact HR296_0.out)) hb); have n7_ := Aside0.mk (Kd.C_below (by repeat (first | (with_reducible exact HR298_0.out) | (with_reducible refine Kd.C_alloc ?_ _) | (with_reducible refine Kd.C_drewN ?_ _) | (with_reducible refine Kd.C_drew ?_) | exact HR298_0.out)) hb); have n8_ := bS HB hb; clear HO_5; clear HL296_0; clear HL298_0; clear BK291; clear BK292; clear HR296_0; clear HR298_0; clear HB; have HO_5 := n0_; have HL296_0 := n1_; have HL298_0 := n2_; have HO303 := n3_; have BK291 := n4_; have BK292 := n5_; have HR296_0 := n6_; have HR298_0 := n7_; have HB := n8_; clear n0_ n1_ n2_ n3_ n4_ n5_ n6_ n7_ n8_; clear hb ho24; have p304 : 0 ≤ (x6_1 : Int) := of_decide_eq_true (by first | (with_reducible assumption) | assumption); have q304 : x6_1 < (t293.length : Int) := of_decide_eq_true (by first | (with_reducible assumption) | assumption); obtain ⟨ad304, A304_0, c304_0, e304, hx304_0, hl304_0, hi304_0⟩ := at_L4 (Kd.N_reads' HO_5.out).2.2 x6_1 p304 q304; obtain rfl : ad296 = ad304 := (by injection e304); obtain ⟨ce304, hce304, hMe304, hcc304⟩ := Kd.N_get HO_5.out [] x6_1 p304 (by first | exact q304 | exact of_decide_eq_true (by first | (with_reducible assumption) | assumption) | (have e_ := (Kd.N_reads' HO_5.out).1; omega)); obtain ⟨ua304_0, uc304_0, rfl, ul304_0, ge304_0⟩ := Kd.FK_slice_open hMe304; have hv304_0 := hcc304 0 _ rfl; rw [Nat.add_zero, show ((Kd.slice 3 (Kd.int .i64))).sz = 1 from rfl, Nat.mul_one] at hv304_0; replace hv304_0 := Option.some.inj (hv304_0.symm.trans hx304_0); injection hv304_0 with hva_ hvn_ hvc_; rw [hva_] at ge304_0; rw [hvc_] at ul304_0; have HL304_0 := Aside0.mk (show Kd.V (Kd.int .i64) 3 _ w.heap.size _ _ (rd_L4 t293 x6_1) from Kd.V_mk ul304_0 ge304_0); clear hva_ hvn_ hvc_ ge304_0 ul304_0; clear hcc304 hce304; have HR304_0 := Aside0.mk hi304_0; have HC304_0 := Aside0.mk hl304_0; clear hi304_0 hl304_0; replace p304 := eq_true p304; replace q304 := eq_true q304) | ((with_reducible refine gate_builtin (b := .append) (xs := #[.tmp 32, .tmp 36]) rfl ?_); at_builtin; refine Kd.R_append_rows (Kd.int .i64) (w0 := w) w.heap.size rfl (.tmp 32) (.tmp 36) 38 3 (.int .i64 0) 8 rfl Try.underlying38 info3 rfl (by decide) (by omega) v302 y301 (rd_L4 t293 x6_1) _ _ _ (fun _ => True) (fun _ => False) rfl rfl ?aO ?aR (fun _ _ h => h) (fun _ h => h.elim) ?aF ?aB ?aS ?aL ?_; (case aR => repeat (first | exact (by repeat (first | (with_reducible exact HR304_0.out) | (with_reducible refine Kd.C_alloc ?_ _) | (with_reducible refine Kd.C_drewN ?_ _) | (with_reducible refine Kd.C_drew ?_) | exact HR304_0.out)) | (with_reducible refine Kd.C_alloc ?_ _) | (with_reducible refine Kd.C_drewN ?_ _) | (with_reducible refine Kd.C_drew ?_))); (case aB => exact (zB HB)); (case aF => exact (fun _ _ => trivial)); (case aO => exact (zR HO303)); (case aS => exact (below_size (zB HB))); (case aL => have := LMc19.out; omega); intro v306 w25 ho hb hg hat; rw [← Ny305.out] at ho; have n0_ := Aside0.mk (Kd.N_afterv (ok := (fun k_ => k_ ≠ gb291 ∧ k_ ≠ gb292)) (by (with_reducible repeat (first | apply Kd.N_alloc | apply Kd.N_drewN | apply Kd.N_drew)); exact HO_5.out) hg hat); have n1_ := Aside0.mk (blk_grown (g := gb291) (o := .cells #[.int .i64 a0_0, .slice A0_1 l0_1.length c0_1, .slice A0_2 l0_2.length c0_2] 31 (0, 0)) (zK BK291) hg (Kd.R_ne HO303.out BK291.out (by decide))); have n2_ := Aside0.mk (blk_grown (g := gb292) (o := .cells #[.int .i64 a1_0, .slice A1_1 l1_1.length c1_1, .slice A1_2 l1_2.length c1_2] 31 (0, 0)) (zK BK292) hg (Kd.R_ne HO303.out BK292.out (by decide))); have n3_ := Aside0.mk (Kd.V_afterv (ok := (fun k_ => some k_ ≠ (.slice (some ad296) t293.length co20 : Value).ownBlock ∧ k_ ≠ gb291 ∧ k_ ≠ gb292)) (by (with_reducible repeat (first | apply Kd.V_alloc | apply Kd.V_drewN | apply Kd.V_drew)); exact Kd.V_mono HL296_0.out (fun _ hk => ⟨⟨hk.1.2, ⟨hk.1.1.1, hk.1.1.2⟩⟩, hk.2⟩)) hg hat); have n4_ := Aside0.mk (Kd.V_afterv (ok := (fun k_ => some k_ ≠ (.slice (some ad296) t293.length co20 : Value).ownBlock ∧ k_ ≠ gb291 ∧ k_ ≠ gb292)) (by (with_reducible repeat (first | apply Kd.V_alloc | apply Kd.V_drewN | apply Kd.V_drew)); exact Kd.V_mono HL298_0.out (fun _ hk => ⟨⟨hk.1.2, ⟨hk.1.1.1, hk.1.1.2⟩⟩, hk.2⟩)) hg hat); have n5_ := Aside0.mk (Kd.V_afterv (ok := (fun k_ => some k_ ≠ (.slice (some ad296) t293.length co20 : Value).ownBlock ∧ k_ ≠ gb291 ∧ k_ ≠ gb292)) (by (with_reducible repeat (first | apply Kd.V_alloc | apply Kd.V_drewN | apply Kd.V_drew)); exact Kd.V_mono HL304_0.out (fun _ hk => ⟨⟨hk.2, ⟨hk.1.1.1, hk.1.1.2⟩⟩, hk.1.2⟩)) hg hat); have n6_ := Aside0.mk (hb); have n7_ := Aside0.mk (ho); clear HO_5; clear BK291; clear BK292; clear HL296_0; clear HL298_0; clear HL304_0; clear HB; clear HO303; have HO_5 := n0_; have BK291 := n1_; have BK292 := n2_; have HL296_0 := n3_; have HL298_0 := n4_; have HL304_0 := n5_; have HB := n6_; have HO307 := n7_; clear n0_ n1_ n2_ n3_ n4_ n5_ n6_ n7_; clear ho hb hg hat))
         go_ret
         exact ⟨_, by first | rfl | (simp [errW_none, errW_some] <;> rfl) | (simp [*, errW_none, errW_some] <;> rfl), by (with_reducible repeat (first | apply Kd.R_alloc | apply Kd.R_drewN | apply Kd.R_drew)); exact HO307.out, by repeat (first | (with_reducible first | exact HB.out | apply below_alloc | apply pw_below_drewN | apply below_drew1 | refine below_set ?_ GE291.out | refine below_set ?_ GE292.out) | exact HB.out)⟩
        ·rw [if_neg c19] at H
         exact absurd H (by simp)
      ·rw [if_neg c13] at H
       exact absurd H (by simp)
     ·rw [if_neg c12] at H
      exact absurd H (by simp)
    ·rw [if_neg c11] at H
     exact absurd H (by simp)
   ·rw [if_neg c10] at H
    have c10b0 : decide (x6_1 < (t293.length : Int)) = false := decide_eq_false c10
    clear c10
    obtain ⟨y308, hy308⟩ : ∃ y_ : List Int, y_ = (([] : List Int)) := ⟨_, rfl⟩
    replace H : (some y308) = some r := by first | (rw [hy308]; with_reducible exact H) | (have H2_ := (Option.bind_some _ _).symm.trans H; rw [hy308]; with_reducible exact H2_) | (have H2_ := (Option.bind_some _ _).symm.trans H; with_reducible exact H2_) | with_reducible exact H | (rw [hy308]; exact H) | exact H
    have Ny308 := Aside0.mk hy308
    clear hy308
    obtain rfl := Option.some.inj H
    obtain ⟨Ao26, co26, eo26⟩ := Kd.N_slice HO_5.out
    subst eo26
    go_wp2_with (first | ((with_reducible refine gate_dst (N := 38) rfl ?_); refine Kd.R_lit (Kd.int .i64) _ 3 ?hg (N := 38) ?hd (xs := ([] : List Int)) (inner := []) (ok := fun _ => True) (okp := fun _ => True) ?hr ?hp (fun _ hk => hk) trivial (Below.refl _ _) (Nat.le_refl _) (by simp) ?_; (case hd => rfl); (case hg => rfl); (case hr => first | (go_simp; done) | (go_simp; rfl)); (case hp => exact (Reps.none _ _)); intro v309 w27 ho28 hb hg_ hnew_; clear hg_ hnew_; (first | rw [← Ny308.out] at ho28 | (simp only [Int.reduceToNat] at ho28; rw [← Ny308.out] at ho28)); have n0_ := Aside0.mk (Kd.N_elder' (by (with_reducible repeat (first | apply Kd.N_alloc | apply Kd.N_drewN | apply Kd.N_drew)); exact HO_5.out) (Kd.R_base ho28) hb); have n1_ := Aside0.mk (Kd.R_lower ho28 (below_size (zB HB))); have n2_ := kB BK291 hb; have n3_ := kB BK292 hb; have n4_ := bS HB hb; clear HO_5; clear BK291; clear BK292; clear HB; have HO_5 := n0_; have HO310 := n1_; have BK291 := n2_; have BK292 := n3_; have HB := n4_; clear n0_ n1_ n2_ n3_ n4_; clear hb ho28))
    go_ret
    exact ⟨_, by first | rfl | (simp [errW_none, errW_some] <;> rfl) | (simp [*, errW_none, errW_some] <;> rfl), by (with_reducible repeat (first | apply Kd.R_alloc | apply Kd.R_drewN | apply Kd.R_drew)); exact HO310.out, by repeat (first | (with_reducible first | exact HB.out | apply below_alloc | apply pw_below_drewN | apply below_drew1 | refine below_set ?_ GE291.out | refine below_set ?_ GE292.out) | exact HB.out)⟩

/-! ### spec_IsSafe: function 25 -/
def spec_IsSafe.f (k : Nat) (a0_0 : Int) (l0_1 : List Bool) (l0_2 : List (S64)) (a1_0 : Int) (l1_1 : List Bool) (l1_2 : List (S64)) : Option (Bool) := (spec_IsMachine.f k a0_0 l0_1 l0_2).bind fun t313 => (if t313 = true then ((spec_IsMachine.f k a1_0 l1_1 l1_2).bind fun t314 => (if t314 = true then ((spec_FirstTrouble.f k a0_0 l0_1 l0_2 a1_0 l1_1 l1_2).bind fun t315 => (some ((t315.length : Int) == 0))) else (some false))) else (some false))
theorem spec_IsSafe.mono : ∀ a0 a1 a2 a3 a4 a5 k, LeO (spec_IsSafe.f k a0 a1 a2 a3 a4 a5) (spec_IsSafe.f (k + 1) a0 a1 a2 a3 a4 a5) := by
 intro a0 a1 a2 a3 a4 a5 k
 unfold spec_IsSafe.f
 repeat' first
   | (with_reducible exact spec_FirstTrouble.mono _ _ _ _ _ _ _)
   | (with_reducible exact spec_IsMachine.mono _ _ _ _)
   | (with_reducible exact LeO.refl _)
   | (with_reducible exact LeO.none _)
   | (with_reducible refine LeO.ite ?_ ?_)
   | (with_reducible refine LeO.bind ?_ (fun _ => ?_))
   | exact spec_FirstTrouble.mono _ _ _ _ _ _ _
   | exact spec_IsMachine.mono _ _ _ _
   | exact LeO.none _
   | refine LeO.ite ?_ ?_
   | refine LeO.bind ?_ (fun _ => ?_)
set_option maxHeartbeats 8000000 in
set_option maxRecDepth 100000 in
theorem spec_IsSafe.calls (k : Nat) (a0_0 : Int) (A0_1 : Option Addr) (c0_1 : Nat) (l0_1 : List Bool) (A0_2 : Option Addr) (c0_2 : Nat) (l0_2 : List (S64)) (a1_0 : Int) (A1_1 : Option Addr) (c1_1 : Nat) (l1_1 : List Bool) (A1_2 : Option Addr) (c1_2 : Nat) (l1_2 : List (S64)) (r : Bool) (w : World) (hr0_1 : Kd.C Kd.bool w A0_1 l0_1.length l0_1) (hc0_1 : l0_1.length ≤ c0_1) (hr0_2 : Kd.C k64 w A0_2 l0_2.length l0_2) (hc0_2 : l0_2.length ≤ c0_2) (hr1_1 : Kd.C Kd.bool w A1_1 l1_1.length l1_1) (hc1_1 : l1_1.length ≤ c1_1) (hr1_2 : Kd.C k64 w A1_2 l1_2.length l1_2) (hc1_2 : l1_2.length ≤ c1_2) (h : spec_IsSafe.f k a0_0 l0_1 l0_2 a1_0 l1_1 l1_2 = some r) :
  Calls Try.prog 25 #[.agg #[.int .i64 a0_0, .slice A0_1 l0_1.length c0_1, .slice A0_2 l0_2.length c0_2], .agg #[.int .i64 a1_0, .slice A1_1 l1_1.length c1_1, .slice A1_2 l1_2.length c1_2]] w fun e w' => e = .returned (.bool r) ∧ Below w.heap.size w w' := by
 have hu31 := Try.underlying31
 have HR0_1 := Aside0.mk hr0_1
 have HC0_1 := Aside0.mk hc0_1
 clear hr0_1 hc0_1
 have HR0_2 := Aside0.mk hr0_2
 have HC0_2 := Aside0.mk hc0_2
 clear hr0_2 hc0_2
 have HR1_1 := Aside0.mk hr1_1
 have HC1_1 := Aside0.mk hc1_1
 clear hr1_1 hc1_1
 have HR1_2 := Aside0.mk hr1_2
 have HC1_2 := Aside0.mk hc1_2
 clear hr1_2 hc1_2
 have HB := Aside0.mk (Below.refl w.heap.size w)
 have H : ((spec_IsMachine.f k a0_0 l0_1 l0_2).bind fun t313 => (if t313 = true then ((spec_IsMachine.f k a1_0 l1_1 l1_2).bind fun t314 => (if t314 = true then ((spec_FirstTrouble.f k a0_0 l0_1 l0_2 a1_0 l1_1 l1_2).bind fun t315 => (some ((t315.length : Int) == 0))) else (some false))) else (some false))) = some r := h
 clear h
 replace H := Option.bind_eq_some_iff.mp H
 obtain ⟨t313, A30, H⟩ := H
 replace H : (if t313 = true then ((spec_IsMachine.f k a1_0 l1_1 l1_2).bind fun t314 => (if t314 = true then ((spec_FirstTrouble.f k a0_0 l0_1 l0_2 a1_0 l1_1 l1_2).bind fun t315 => (some ((t315.length : Int) == 0))) else (some false))) else (some false)) = some r := H
 have A3 := Aside0.mk A30
 clear A30
 by_cases c4 : t313 = true
 ·subst c4
  have H1 : ((spec_IsMachine.f k a1_0 l1_1 l1_2).bind fun t314 => (if t314 = true then ((spec_FirstTrouble.f k a0_0 l0_1 l0_2 a1_0 l1_1 l1_2).bind fun t315 => (some ((t315.length : Int) == 0))) else (some false))) = some r := by rw [if_pos rfl] at H; exact H
  clear H
  have H := H1
  clear H1
  replace H := Option.bind_eq_some_iff.mp H
  obtain ⟨t314, A50, H⟩ := H
  replace H : (if t314 = true then ((spec_FirstTrouble.f k a0_0 l0_1 l0_2 a1_0 l1_1 l1_2).bind fun t315 => (some ((t315.length : Int) == 0))) else (some false)) = some r := H
  have A5 := Aside0.mk A50
  clear A50
  by_cases c6 : t314 = true
  ·subst c6
   have H1 : ((spec_FirstTrouble.f k a0_0 l0_1 l0_2 a1_0 l1_1 l1_2).bind fun t315 => (some ((t315.length : Int) == 0))) = some r := by rw [if_pos rfl] at H; exact H
   clear H
   have H := H1
   clear H1
   replace H := Option.bind_eq_some_iff.mp H
   obtain ⟨t315, A70, H⟩ := H
   replace H : (some ((t315.length : Int) == 0)) = some r := H
   have A7 := Aside0.mk A70
   clear A70
   obtain rfl := Option.some.inj H
   go_enter Try.func25, Try.ntmps25
   go_wp2_with (first | ((with_reducible refine gate_dst (N := 2) rfl ?_); (try (refine gate_guard (by rfl) ?_; dsimp only)); refine box_event ?hg (N := 2) ?hd (cs := #[.int .i64 a0_0, .slice A0_1 l0_1.length c0_1, .slice A0_2 l0_2.length c0_2]) (t := 31) ?hr ?_; (case hd => rfl); (case hg => rfl); (case hr => first | (go_simp; done) | (go_simp; rfl)); intro gb311 hg w8 hbox hb; have n0_ := bS HB hb; have n1_ := Aside0.mk (hbox); have n2_ := gS HB hg; have n3_ := gS HB hg; clear HB; have HB := n0_; have BK311 := n1_; have GW311 := n2_; have GE311 := n3_; clear n0_ n1_ n2_ n3_; clear hb hbox hg) | ((with_reducible refine gate_dst (N := 3) rfl ?_); (try (refine gate_guard (by rfl) ?_; dsimp only)); refine box_event ?hg (N := 3) ?hd (cs := #[.int .i64 a1_0, .slice A1_1 l1_1.length c1_1, .slice A1_2 l1_2.length c1_2]) (t := 31) ?hr ?_; (case hd => rfl); (case hg => rfl); (case hr => first | (go_simp; done) | (go_simp; rfl)); intro gb312 hg w9 hbox hb; have n0_ := kB BK311 hb; have n1_ := bS HB hb; have n2_ := Aside0.mk (hbox); have n3_ := gS HB hg; have n4_ := gS HB hg; have n5_ := Aside0.mk ((by rw [hg]; exact Nat.ne_of_lt (blk_lt (g := gb311) (o := .cells #[.int .i64 a0_0, .slice A0_1 l0_1.length c0_1, .slice A0_2 l0_2.length c0_2] 31 (0, 0)) (zK BK311)) : gb311 ≠ gb312)); have n6_ := Aside0.mk ((by rw [hg]; exact Nat.ne_of_gt (blk_lt (g := gb311) (o := .cells #[.int .i64 a0_0, .slice A0_1 l0_1.length c0_1, .slice A0_2 l0_2.length c0_2] 31 (0, 0)) (zK BK311)) : gb312 ≠ gb311)); clear BK311; clear HB; have BK311 := n0_; have HB := n1_; have BK312 := n2_; have GW312 := n3_; have GE312 := n4_; have NB311_312 := n5_; have NB312_311 := n6_; clear n0_ n1_ n2_ n3_ n4_ n5_ n6_; clear hb hbox hg; have hnb10 := NB311_312.out; have hnc10 := NB312_311.out; have hcz11_0 := bc0 BK311; have hcz11_1 := bc1 BK311; have hcz11_2 := bc2 BK311; have hfz11_0 := bf BK311 0; have hfz11_1 := bf BK311 1; have hfz11_2 := bf BK311 2) | ((with_reducible refine gate_callee (f := 36) rfl ?_); refine goesL_ (some 6) rfl rfl Try.func36 (by kernel_rfl) rfl #[.agg #[.int .i64 a0_0, .slice A0_1 l0_1.length c0_1, .slice A0_2 l0_2.length c0_2]] rfl zG ?_; (with_reducible refine (spec_IsMachine.calls k a0_0 _ _ l0_1 _ _ l0_2 true _ ?side1 ?side2 ?side3 ?side4 A3.out).mono ?_); (case side1 => exact cS HR0_1 HB); (case side2 => exact HC0_1.out); (case side3 => exact cS HR0_2 HB); (case side4 => exact HC0_2.out); rintro e w12 ⟨rfl, hb⟩; refine ⟨_, rfl, ?_⟩; have n0_ := kB BK311 hb; have n1_ := kB BK312 hb; have n2_ := bS HB hb; clear BK311; clear BK312; clear HB; have BK311 := n0_; have BK312 := n1_; have HB := n2_; clear n0_ n1_ n2_; (try clear hb); have hcz13_0 := bc0 BK312; have hcz13_1 := bc1 BK312; have hcz13_2 := bc2 BK312; have hfz13_0 := bf BK312 0; have hfz13_1 := bf BK312 1; have hfz13_2 := bf BK312 2) | (go_at_call 36; (with_reducible refine (spec_IsMachine.calls k a1_0 _ _ l1_1 _ _ l1_2 true _ ?side1 ?side2 ?side3 ?side4 A5.out).mono ?_); (case side1 => exact cS HR1_1 HB); (case side2 => exact HC1_1.out); (case side3 => exact cS HR1_2 HB); (case side4 => exact HC1_2.out); rintro e w14 ⟨rfl, hb⟩; have n0_ := kB BK311 hb; have n1_ := kB BK312 hb; have n2_ := bS HB hb; clear BK311; clear BK312; clear HB; have BK311 := n0_; have BK312 := n1_; have HB := n2_; clear n0_ n1_ n2_; (try clear hb); have hcz15_0 := bc0 BK311; have hcz15_1 := bc1 BK311; have hcz15_2 := bc2 BK311; have hfz15_0 := bf BK311 0; have hfz15_1 := bf BK311 1; have hfz15_2 := bf BK311 2; have hcz16_0 := bc0 BK312; have hcz16_1 := bc1 BK312; have hcz16_2 := bc2 BK312; have hfz16_0 := bf BK312 0; have hfz16_1 := bf BK312 1; have hfz16_2 := bf BK312 2) | (go_at_call 20; (with_reducible refine (spec_FirstTrouble.calls k a0_0 _ _ l0_1 _ _ l0_2 a1_0 _ _ l1_1 _ _ l1_2 t315 _ ?side1 ?side2 ?side3 ?side4 ?side5 ?side6 ?side7 ?side8 A7.out).mono ?_); (case side1 => exact cS HR0_1 HB); (case side2 => exact HC0_1.out); (case side3 => exact cS HR0_2 HB); (case side4 => exact HC0_2.out); (case side5 => exact cS HR1_1 HB); (case side6 => exact HC1_1.out); (case side7 => exact cS HR1_2 HB); (case side8 => exact HC1_2.out); rintro e w17 ⟨v316, rfl, ho0, hb⟩; have n0_ := Aside0.mk (Kd.R_lower ho0 (below_size (zB HB))); have n1_ := kB BK311 hb; have n2_ := kB BK312 hb; have n3_ := bS HB hb; clear BK311; clear BK312; clear HB; have HO317 := n0_; have BK311 := n1_; have BK312 := n2_; have HB := n3_; clear n0_ n1_ n2_ n3_; (try clear hb); (try clear ho0); obtain ⟨Ao18, co18, eo18⟩ := Kd.R_slice HO317.out; subst eo18))
   go_ret
   exact ⟨by first | rfl | (simp [errW_none, errW_some] <;> rfl) | (simp [*, errW_none, errW_some] <;> rfl), by repeat (first | (with_reducible first | exact HB.out | apply below_alloc | apply pw_below_drewN | apply below_drew1 | refine below_set ?_ GE311.out | refine below_set ?_ GE312.out) | exact HB.out)⟩
  ·replace c6 := Bool.eq_false_iff.mpr c6
   subst c6
   have H1 : (some false) = some r := by rw [if_neg (show ¬ (false = true) by decide)] at H; exact H
   clear H
   have H := H1
   clear H1
   obtain rfl := Option.some.inj H
   go_enter Try.func25, Try.ntmps25
   go_wp2_with (first | ((with_reducible refine gate_dst (N := 2) rfl ?_); (try (refine gate_guard (by rfl) ?_; dsimp only)); refine box_event ?hg (N := 2) ?hd (cs := #[.int .i64 a0_0, .slice A0_1 l0_1.length c0_1, .slice A0_2 l0_2.length c0_2]) (t := 31) ?hr ?_; (case hd => rfl); (case hg => rfl); (case hr => first | (go_simp; done) | (go_simp; rfl)); intro gb311 hg w19 hbox hb; have n0_ := bS HB hb; have n1_ := Aside0.mk (hbox); have n2_ := gS HB hg; have n3_ := gS HB hg; clear HB; have HB := n0_; have BK311 := n1_; have GW311 := n2_; have GE311 := n3_; clear n0_ n1_ n2_ n3_; clear hb hbox hg) | ((with_reducible refine gate_dst (N := 3) rfl ?_); (try (refine gate_guard (by rfl) ?_; dsimp only)); refine box_event ?hg (N := 3) ?hd (cs := #[.int .i64 a1_0, .slice A1_1 l1_1.length c1_1, .slice A1_2 l1_2.length c1_2]) (t := 31) ?hr ?_; (case hd => rfl); (case hg => rfl); (case hr => first | (go_simp; done) | (go_simp; rfl)); intro gb312 hg w20 hbox hb; have n0_ := kB BK311 hb; have n1_ := bS HB hb; have n2_ := Aside0.mk (hbox); have n3_ := gS HB hg; have n4_ := gS HB hg; have n5_ := Aside0.mk ((by rw [hg]; exact Nat.ne_of_lt (blk_lt (g := gb311) (o := .cells #[.int .i64 a0_0, .slice A0_1 l0_1.length c0_1, .slice A0_2 l0_2.length c0_2] 31 (0, 0)) (zK BK311)) : gb311 ≠ gb312)); have n6_ := Aside0.mk ((by rw [hg]; exact Nat.ne_of_gt (blk_lt (g := gb311) (o := .cells #[.int .i64 a0_0, .slice A0_1 l0_1.length c0_1, .slice A0_2 l0_2.length c0_2] 31 (0, 0)) (zK BK311)) : gb312 ≠ gb311)); clear BK311; clear HB; have BK311 := n0_; have HB := n1_; have BK312 := n2_; have GW312 := n3_; have GE312 := n4_; have NB311_312 := n5_; have NB312_311 := n6_; clear n0_ n1_ n2_ n3_ n4_ n5_ n6_; clear hb hbox hg; have hnb21 := NB311_312.out; have hnc21 := NB312_311.out; have hcz22_0 := bc0 BK311; have hcz22_1 := bc1 BK311; have hcz22_2 := bc2 BK311; have hfz22_0 := bf BK311 0; have hfz22_1 := bf BK311 1; have hfz22_2 := bf BK311 2) | ((with_reducible refine gate_callee (f := 36) rfl ?_); refine goesL_ (some 6) rfl rfl Try.func36 (by kernel_rfl) rfl #[.agg #[.int .i64 a0_0, .slice A0_1 l0_1.length c0_1, .slice A0_2 l0_2.length c0_2]] rfl zG ?_; (with_reducible refine (spec_IsMachine.calls k a0_0 _ _ l0_1 _ _ l0_2 true _ ?side1 ?side2 ?side3 ?side4 A3.out).mono ?_); (case side1 => exact cS HR0_1 HB); (case side2 => exact HC0_1.out); (case side3 => exact cS HR0_2 HB); (case side4 => exact HC0_2.out); rintro e w23 ⟨rfl, hb⟩; refine ⟨_, rfl, ?_⟩; have n0_ := kB BK311 hb; have n1_ := kB BK312 hb; have n2_ := bS HB hb; clear BK311; clear BK312; clear HB; have BK311 := n0_; have BK312 := n1_; have HB := n2_; clear n0_ n1_ n2_; (try clear hb); have hcz24_0 := bc0 BK312; have hcz24_1 := bc1 BK312; have hcz24_2 := bc2 BK312; have hfz24_0 := bf BK312 0; have hfz24_1 := bf BK312 1; have hfz24_2 := bf BK312 2) | (go_at_call 36; (with_reducible refine (spec_IsMachine.calls k a1_0 _ _ l1_1 _ _ l1_2 false _ ?side1 ?side2 ?side3 ?side4 A5.out).mono ?_); (case side1 => exact cS HR1_1 HB); (case side2 => exact HC1_1.out); (case side3 => exact cS HR1_2 HB); (case side4 => exact HC1_2.out); rintro e w25 ⟨rfl, hb⟩; have n0_ := kB BK311 hb; have n1_ := kB BK312 hb; have n2_ := bS HB hb; clear BK311; clear BK312; clear HB; have BK311 := n0_; have BK312 := n1_; have HB := n2_; clear n0_ n1_ n2_; (try clear hb)))
   go_ret
   exact ⟨by first | rfl | (simp [errW_none, errW_some] <;> rfl) | (simp [*, errW_none, errW_some] <;> rfl), by repeat (first | (with_reducible first | exact HB.out | apply below_alloc | apply pw_below_drewN | apply below_drew1 | refine below_set ?_ GE311.out | refine below_set ?_ GE312.out) | exact HB.out)⟩
 ·replace c4 := Bool.eq_false_iff.mpr c4
  subst c4
  have H1 : (some false) = some r := by rw [if_neg (show ¬ (false = true) by decide)] at H; exact H
  clear H
  have H := H1
  clear H1
  obtain rfl := Option.some.inj H
  go_enter Try.func25, Try.ntmps25
  go_wp2_with (first | ((with_reducible refine gate_dst (N := 2) rfl ?_); (try (refine gate_guard (by rfl) ?_; dsimp only)); refine box_event ?hg (N := 2) ?hd (cs := #[.int .i64 a0_0, .slice A0_1 l0_1.length c0_1, .slice A0_2 l0_2.length c0_2]) (t := 31) ?hr ?_; (case hd => rfl); (case hg => rfl); (case hr => first | (go_simp; done) | (go_simp; rfl)); intro gb311 hg w26 hbox hb; have n0_ := bS HB hb; have n1_ := Aside0.mk (hbox); have n2_ := gS HB hg; have n3_ := gS HB hg; clear HB; have HB := n0_; have BK311 := n1_; have GW311 := n2_; have GE311 := n3_; clear n0_ n1_ n2_ n3_; clear hb hbox hg) | ((with_reducible refine gate_dst (N := 3) rfl ?_); (try (refine gate_guard (by rfl) ?_; dsimp only)); refine box_event ?hg (N := 3) ?hd (cs := #[.int .i64 a1_0, .slice A1_1 l1_1.length c1_1, .slice A1_2 l1_2.length c1_2]) (t := 31) ?hr ?_; (case hd => rfl); (case hg => rfl); (case hr => first | (go_simp; done) | (go_simp; rfl)); intro gb312 hg w27 hbox hb; have n0_ := kB BK311 hb; have n1_ := bS HB hb; have n2_ := Aside0.mk (hbox); have n3_ := gS HB hg; have n4_ := gS HB hg; have n5_ := Aside0.mk ((by rw [hg]; exact Nat.ne_of_lt (blk_lt (g := gb311) (o := .cells #[.int .i64 a0_0, .slice A0_1 l0_1.length c0_1, .slice A0_2 l0_2.length c0_2] 31 (0, 0)) (zK BK311)) : gb311 ≠ gb312)); have n6_ := Aside0.mk ((by rw [hg]; exact Nat.ne_of_gt (blk_lt (g := gb311) (o := .cells #[.int .i64 a0_0, .slice A0_1 l0_1.length c0_1, .slice A0_2 l0_2.length c0_2] 31 (0, 0)) (zK BK311)) : gb312 ≠ gb311)); clear BK311; clear HB; have BK311 := n0_; have HB := n1_; have BK312 := n2_; have GW312 := n3_; have GE312 := n4_; have NB311_312 := n5_; have NB312_311 := n6_; clear n0_ n1_ n2_ n3_ n4_ n5_ n6_; clear hb hbox hg; have hnb28 := NB311_312.out; have hnc28 := NB312_311.out; have hcz29_0 := bc0 BK311; have hcz29_1 := bc1 BK311; have hcz29_2 := bc2 BK311; have hfz29_0 := bf BK311 0; have hfz29_1 := bf BK311 1; have hfz29_2 := bf BK311 2) | ((with_reducible refine gate_callee (f := 36) rfl ?_); refine goesL_ (some 6) rfl rfl Try.func36 (by kernel_rfl) rfl #[.agg #[.int .i64 a0_0, .slice A0_1 l0_1.length c0_1, .slice A0_2 l0_2.length c0_2]] rfl zG ?_; (with_reducible refine (spec_IsMachine.calls k a0_0 _ _ l0_1 _ _ l0_2 false _ ?side1 ?side2 ?side3 ?side4 A3.out).mono ?_); (case side1 => exact cS HR0_1 HB); (case side2 => exact HC0_1.out); (case side3 => exact cS HR0_2 HB); (case side4 => exact HC0_2.out); rintro e w30 ⟨rfl, hb⟩; refine ⟨_, rfl, ?_⟩; have n0_ := kB BK311 hb; have n1_ := kB BK312 hb; have n2_ := bS HB hb; clear BK311; clear BK312; clear HB; have BK311 := n0_; have BK312 := n1_; have HB := n2_; clear n0_ n1_ n2_; (try clear hb)))
  go_ret
  exact ⟨by first | rfl | (simp [errW_none, errW_some] <;> rfl) | (simp [*, errW_none, errW_some] <;> rfl), by repeat (first | (with_reducible first | exact HB.out | apply below_alloc | apply pw_below_drewN | apply below_drew1 | refine below_set ?_ GE311.out | refine below_set ?_ GE312.out) | exact HB.out)⟩

/-! ### impl_InRange: function 60 -/
def impl_InRange.f (a0 : Int) (a1 : Int) (a2 : Int) : Option (Bool) := if a1 ≤ a0 then (some (decide (a0 ≤ a2))) else (some false)
set_option maxHeartbeats 8000000 in
set_option maxRecDepth 100000 in
theorem impl_InRange.calls (a0 : Int) (a1 : Int) (a2 : Int) (r : Bool) (w : World) (h : impl_InRange.f a0 a1 a2 = some r) :
  Calls Try.prog 60 #[.int .i64 a0, .int .i64 a1, .int .i64 a2] w fun e w' => e = .returned (.bool r) ∧ Drawn0 w w' := by
 have H : (if a1 ≤ a0 then (some (decide (a0 ≤ a2))) else (some false)) = some r := h
 clear h
 by_cases c4 : a1 ≤ a0
 ·rw [if_pos c4] at H
  have c4b0 : decide (a1 ≤ a0) = true := decide_eq_true c4
  clear c4
  obtain rfl := Option.some.inj H
  go_enter Try.func60, Try.ntmps60
  go_wp2
  go_ret
  exact ⟨by first | rfl | (simp; done) | (simp [*]; done), by repeat (first | exact Drawn0.refl _ | apply Drawn0.step)⟩
 ·rw [if_neg c4] at H
  have c4b0 : decide (a1 ≤ a0) = false := decide_eq_false c4
  clear c4
  obtain rfl := Option.some.inj H
  go_enter Try.func60, Try.ntmps60
  go_wp2
  go_ret
  exact ⟨by first | rfl | (simp; done) | (simp [*]; done), by repeat (first | exact Drawn0.refl _ | apply Drawn0.step)⟩

end Go.Proofs.Ytmenijbpglknbaa.PFnExactIsSafe
