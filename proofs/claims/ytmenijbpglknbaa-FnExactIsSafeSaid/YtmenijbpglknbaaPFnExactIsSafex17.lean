-- WRITTEN by pp.py, this session's own wrapper around the print; not trusted: Lean checks it
import Derived.Test.YtmenijbpglknbaaPFnExactIsSafex0
import Derived.Test.YtmenijbpglknbaaPFnExactIsSafex11
import Derived.Test.YtmenijbpglknbaaPFnExactIsSafex15
import Derived.Test.YtmenijbpglknbaaPFnExactIsSafex16
namespace Go.Proofs.Ytmenijbpglknbaa.PFnExactIsSafe
open Go.RowKit Go.Proofs.Ytmenijbpglknbaa.Hw Go.Proofs.YtmenijbpglknbaaW.PrintWords Go.Proofs.YtmenijbpglknbaaW.PrintLast Go.Proofs.YtmenijbpglknbaaW.PrintMore
attribute [local go_sem] max2_int min2_int max_two min_two max_three min_three max_four min_four   -- for this text's walks alone
set_option linter.unusedVariables false
set_option linter.unusedSimpArgs false
set_option linter.unusedSectionVars false

/-! ### impl_FirstTrouble: function 21 -/
def impl_FirstTrouble.l0 : Nat → List (List Int) → Int → Int → Int → List Bool → List (S64) → Int → List Bool → List (S64) → Option (List Int)
 | 0, _, _, _, _, _, _, _, _, _ => none
 | k + 1, x9, x10, x11, x484000, x484001, x484002, x485000, x485001, x485002 => if x11 < x10 then (if 0 ≤ x11 then (if x11 < (x9.length : Int) then (if 0 < ((rd_L4 x9 x11).length : Int) then (if 1 < ((rd_L4 x9 x11).length : Int) then ((impl_TroubleAt.f k x484000 x484001 x484002 x485000 x485001 x485002 (rd (rd_L4 x9 x11) 0) (rd (rd_L4 x9 x11) 1)).bind fun t491 => (if t491 = 0 then (impl_FirstTrouble.l0 k x9 x10 (wrap64 (x11 + 1)) x484000 x484001 x484002 x485000 x485001 x485002) else (some (rd_L4 x9 x11)))) else (none)) else (none)) else (none)) else (none)) else (some ([] : List Int))
def impl_FirstTrouble.f (k : Nat) (a0_0 : Int) (l0_1 : List Bool) (l0_2 : List (S64)) (a1_0 : Int) (l1_1 : List Bool) (l1_2 : List (S64)) : Option (List Int) := (impl_PairsOf.f k a0_0 l0_1 l0_2 a1_0 l1_1 l1_2).bind fun t485 => (impl_FirstTrouble.l0 k t485 (t485.length : Int) 0 a0_0 l0_1 l0_2 a1_0 l1_1 l1_2)
theorem impl_FirstTrouble.mono_l : ∀ k, (∀ y0 y1 y2 y3 y4 y5 y6 y7 y8, LeO (impl_FirstTrouble.l0 k y0 y1 y2 y3 y4 y5 y6 y7 y8) (impl_FirstTrouble.l0 (k + 1) y0 y1 y2 y3 y4 y5 y6 y7 y8))
 | 0 => fun _ _ _ _ _ _ _ _ _ r h => by simp [impl_FirstTrouble.l0] at h
 | k + 1 => by
  have ih0 := impl_FirstTrouble.mono_l k
  ·intro y0 y1 y2 y3 y4 y5 y6 y7 y8
   unfold impl_FirstTrouble.l0
   repeat' first
   | (with_reducible exact ih0 _ _ _ _ _ _ _ _ _)
   | (with_reducible exact impl_PairsOf.mono _ _ _ _ _ _ _)
   | (with_reducible exact impl_TroubleAt.mono _ _ _ _ _ _ _ _ _)
   | (with_reducible exact LeO.refl _)
   | (with_reducible exact LeO.none _)
   | (with_reducible refine LeO.ite ?_ ?_)
   | (with_reducible refine LeO.bind ?_ (fun _ => ?_))
   | exact ih0 _ _ _ _ _ _ _ _ _
   | exact impl_PairsOf.mono _ _ _ _ _ _ _
   | exact impl_TroubleAt.mono _ _ _ _ _ _ _ _ _
   | exact LeO.none _
   | refine LeO.ite ?_ ?_
   | refine LeO.bind ?_ (fun _ => ?_)
theorem impl_FirstTrouble.mono : ∀ a0 a1 a2 a3 a4 a5 k, LeO (impl_FirstTrouble.f k a0 a1 a2 a3 a4 a5) (impl_FirstTrouble.f (k + 1) a0 a1 a2 a3 a4 a5) := by
 intro a0 a1 a2 a3 a4 a5 k
 have ih0 := impl_FirstTrouble.mono_l k
 unfold impl_FirstTrouble.f
 repeat' first
   | (with_reducible exact ih0 _ _ _ _ _ _ _ _ _)
   | (with_reducible exact impl_PairsOf.mono _ _ _ _ _ _ _)
   | (with_reducible exact impl_TroubleAt.mono _ _ _ _ _ _ _ _ _)
   | (with_reducible exact LeO.refl _)
   | (with_reducible exact LeO.none _)
   | (with_reducible refine LeO.ite ?_ ?_)
   | (with_reducible refine LeO.bind ?_ (fun _ => ?_))
   | exact ih0 _ _ _ _ _ _ _ _ _
   | exact impl_PairsOf.mono _ _ _ _ _ _ _
   | exact impl_TroubleAt.mono _ _ _ _ _ _ _ _ _
   | exact LeO.none _
   | refine LeO.ite ?_ ?_
   | refine LeO.bind ?_ (fun _ => ?_)
def impl_FirstTrouble.T4 : Bool × List (List Nat × List Nat) := (true, [([], []), ([], []), ([], []), ([2], [2]), ([3], [3]), ([], []), ([5], [5]), ([6], [6]), ([0, 1, 4, 7], [0, 1, 4, 7]), ([8], [8])])
def impl_FirstTrouble.B4 : List Nat := [0, 0, 0, 4, 12, 0, 32, 96, 255, 511]
theorem impl_FirstTrouble.tab4 : rtab .any (opsOf Try.f21 4) = impl_FirstTrouble.T4 := by kernel_rfl
theorem impl_FirstTrouble.bits4 : waitsOk impl_FirstTrouble.T4.2 impl_FirstTrouble.B4 = true := by kernel_rfl
set_option maxHeartbeats 8000000 in
set_option maxRecDepth 100000 in
theorem impl_FirstTrouble.calls (k : Nat) (a0_0 : Int) (A0_1 : Option Addr) (c0_1 : Nat) (l0_1 : List Bool) (A0_2 : Option Addr) (c0_2 : Nat) (l0_2 : List (S64)) (a1_0 : Int) (A1_1 : Option Addr) (c1_1 : Nat) (l1_1 : List Bool) (A1_2 : Option Addr) (c1_2 : Nat) (l1_2 : List (S64)) (r : List Int) (w : World) (hr0_1 : Kd.C Kd.bool w A0_1 l0_1.length l0_1) (hc0_1 : l0_1.length ≤ c0_1) (hr0_2 : Kd.C k64 w A0_2 l0_2.length l0_2) (hc0_2 : l0_2.length ≤ c0_2) (hr1_1 : Kd.C Kd.bool w A1_1 l1_1.length l1_1) (hc1_1 : l1_1.length ≤ c1_1) (hr1_2 : Kd.C k64 w A1_2 l1_2.length l1_2) (hc1_2 : l1_2.length ≤ c1_2) (h : impl_FirstTrouble.f k a0_0 l0_1 l0_2 a1_0 l1_1 l1_2 = some r) :
  Calls Try.prog 21 #[.agg #[.int .i64 a0_0, .slice A0_1 l0_1.length c0_1, .slice A0_2 l0_2.length c0_2], .agg #[.int .i64 a1_0, .slice A1_1 l1_1.length c1_1, .slice A1_2 l1_2.length c1_2]] w fun e w' => ∃ v0_ : Value, e = .returned (v0_) ∧ Kd.V (Kd.int .i64) 3 w' w.heap.size (fun k_ => (w.heap.size ≤ k_)) v0_ r ∧ Below w.heap.size w w' := by
 have hu31 := Try.underlying31
 have HR0_1 := Aside0.mk hr0_1
 have HC0_1 := Aside0.mk hc0_1
 clear hr0_1 hc0_1
 have HR0_2 := Aside0.mk hr0_2
 have HC0_2 := Aside0.mk hc0_2
 clear hr0_2 hc0_2
 have HR1_1 := Aside0.mk hr1_1
 have HC1_1 := Aside0.mk hc1_1
 clear hr1_1 hc1_1
 have HR1_2 := Aside0.mk hr1_2
 have HC1_2 := Aside0.mk hc1_2
 clear hr1_2 hc1_2
 have HB := Aside0.mk (Below.refl w.heap.size w)
 have H : ((impl_PairsOf.f k a0_0 l0_1 l0_2 a1_0 l1_1 l1_2).bind fun t485 => (impl_FirstTrouble.l0 k t485 (t485.length : Int) 0 a0_0 l0_1 l0_2 a1_0 l1_1 l1_2)) = some r := h
 clear h
 replace H := Option.bind_eq_some_iff.mp H
 obtain ⟨t485, A30, H⟩ := H
 replace H : (impl_FirstTrouble.l0 k t485 (t485.length : Int) 0 a0_0 l0_1 l0_2 a1_0 l1_1 l1_2) = some r := H
 have A3 := Aside0.mk A30
 clear A30
 have H' := Aside0.mk H
 clear H
 go_enter Try.func21, Try.ntmps21
 go_wp2_with (first | ((with_reducible refine gate_dst (N := 2) rfl ?_); refine box_event ?hg (N := 2) ?hd (cs := #[.int .i64 a0_0, .slice A0_1 l0_1.length c0_1, .slice A0_2 l0_2.length c0_2]) (t := 31) ?hr ?_; (case hd => rfl); (case hg => rfl); (case hr => first | (go_simp; done) | (go_simp; rfl)); intro gb483 hg w4 hbox hb; have n0_ := bS HB hb; have n1_ := Aside0.mk (hbox); have n2_ := gS HB hg; have n3_ := gS HB hg; clear HB; have HB := n0_; have BK483 := n1_; have GW483 := n2_; have GE483 := n3_; clear n0_ n1_ n2_ n3_; clear hb hbox hg) | ((with_reducible refine gate_dst (N := 3) rfl ?_); refine box_event ?hg (N := 3) ?hd (cs := #[.int .i64 a1_0, .slice A1_1 l1_1.length c1_1, .slice A1_2 l1_2.length c1_2]) (t := 31) ?hr ?_; (case hd => rfl); (case hg => rfl); (case hr => first | (go_simp; done) | (go_simp; rfl)); intro gb484 hg w5 hbox hb; have n0_ := kB BK483 hb; have n1_ := bS HB hb; have n2_ := Aside0.mk (hbox); have n3_ := gS HB hg; have n4_ := gS HB hg; have n5_ := Aside0.mk ((by rw [hg]; exact Nat.ne_of_lt (blk_lt (g := gb483) (o := .cells #[.int .i64 a0_0, .slice A0_1 l0_1.length c0_1, .slice A0_2 l0_2.length c0_2] 31 (0, 0)) (zK BK483)) : gb483 ≠ gb484)); have n6_ := Aside0.mk ((by rw [hg]; exact Nat.ne_of_gt (blk_lt (g := gb483) (o := .cells #[.int .i64 a0_0, .slice A0_1 l0_1.length c0_1, .slice A0_2 l0_2.length c0_2] 31 (0, 0)) (zK BK483)) : gb484 ≠ gb483)); clear BK483; clear HB; have BK483 := n0_; have HB := n1_; have BK484 := n2_; have GW484 := n3_; have GE484 := n4_; have NB483_484 := n5_; have NB484_483 := n6_; clear n0_ n1_ n2_ n3_ n4_ n5_ n6_; clear hb hbox hg; have hnb6 := NB483_484.out; have hnc6 := NB484_483.out; have hcz7_0 := bc0 BK483; have hcz7_1 := bc1 BK483; have hcz7_2 := bc2 BK483; have hfz7_0 := bf BK483 0; have hfz7_1 := bf BK483 1; have hfz7_2 := bf BK483 2; have hcz8_0 := bc0 BK484; have hcz8_1 := bc1 BK484; have hcz8_2 := bc2 BK484; have hfz8_0 := bf BK484 0; have hfz8_1 := bf BK484 1; have hfz8_2 := bf BK484 2) | ((with_reducible refine gate_callee (f := 12) rfl ?_); refine goesL_ (some 9) rfl rfl Try.func12 (by kernel_rfl) rfl #[.agg #[.int .i64 a0_0, .slice A0_1 l0_1.length c0_1, .slice A0_2 l0_2.length c0_2], .agg #[.int .i64 a1_0, .slice A1_1 l1_1.length c1_1, .slice A1_2 l1_2.length c1_2]] rfl zG ?_; (with_reducible refine (impl_PairsOf.calls k a0_0 _ _ l0_1 _ _ l0_2 a1_0 _ _ l1_1 _ _ l1_2 t485 _ ?side1 ?side2 ?side3 ?side4 ?side5 ?side6 ?side7 ?side8 A3.out).mono ?_); (case side1 => exact cS HR0_1 HB); (case side2 => exact HC0_1.out); (case side3 => exact cS HR0_2 HB); (case side4 => exact HC0_2.out); (case side5 => exact cS HR1_1 HB); (case side6 => exact HC1_1.out); (case side7 => exact cS HR1_2 HB); (case side8 => exact HC1_2.out); rintro e w9 ⟨v486, rfl, ho0, hb⟩; refine ⟨_, rfl, ?_⟩; have n0_ := Aside0.mk (Kd.N_lower (Kd.N_mono (ok' := fun k_ => (w.heap.size ≤ k_) ∧ k_ ≠ gb483 ∧ k_ ≠ gb484) ho0 (fun k_ hk_ => ⟨(Nat.le_trans (below_size (zB HB)) hk_), (Kd.freshB (g := gb483) (o := .cells #[.int .i64 a0_0, .slice A0_1 l0_1.length c0_1, .slice A0_2 l0_2.length c0_2] 31 (0, 0)) (zK BK483) k_ hk_), (Kd.freshB (g := gb484) (o := .cells #[.int .i64 a1_0, .slice A1_1 l1_1.length c1_1, .slice A1_2 l1_2.length c1_2] 31 (0, 0)) (zK BK484) k_ hk_)⟩)) (below_size (zB HB))); have n1_ := kB BK483 hb; have n2_ := kB BK484 hb; have n3_ := bS HB hb; clear BK483; clear BK484; clear HB; have HO487 := n0_; have BK483 := n1_; have BK484 := n2_; have HB := n3_; clear n0_ n1_ n2_ n3_; (try clear hb); (try clear ho0); obtain ⟨Ao10, co10, eo10⟩ := Kd.N_slice HO487.out; subst eo10))
 go_loopg [11] k (fun kq v11 w' => ∃ (x11_1 : Int), v11 = .int .i64 x11_1 ∧ Aside0 (impl_FirstTrouble.l0 kq t485 (t485.length : Int) x11_1 a0_0 l0_1 l0_2 a1_0 l1_1 l1_2 = some r) ∧ Aside0 (kq ≤ k) ∧ Aside0 (Kd.N (Kd.slice 3 (Kd.int .i64)) 38 w' w.heap.size (fun k_ => (w.heap.size ≤ k_) ∧ k_ ≠ gb483 ∧ k_ ≠ gb484) (.slice Ao10 t485.length co10) t485) ∧ Aside0 (w'.heap[gb483]? = some (.cells #[.int .i64 a0_0, (.slice A0_1 l0_1.length c0_1), (.slice A0_2 l0_2.length c0_2)] 31 (0, 0))) ∧ Aside0 (w'.heap[gb484]? = some (.cells #[.int .i64 a1_0, (.slice A1_1 l1_1.length c1_1), (.slice A1_2 l1_2.length c1_2)] 31 (0, 0))) ∧ Aside0 (Below w.heap.size w w'))
 case atStart => exact ⟨(0), zF, H', ⟨Nat.le_refl _⟩, ⟨by (with_reducible repeat (first | apply Kd.N_alloc | apply Kd.N_drewN | apply Kd.N_drew)); exact HO487.out⟩, ⟨zK BK483⟩, ⟨zK BK484⟩, ⟨zB HB⟩⟩
 case round =>
  clear H'
  try clear c1
  try clear c2
  try clear p2
  try clear c6
  try clear hcz7_0
  try clear hcz7_1
  try clear hcz7_2
  try clear hcz8_0
  try clear hcz8_1
  try clear hcz8_2
  try clear hfz7_0
  try clear hfz7_1
  try clear hfz7_2
  try clear hfz8_0
  try clear hfz8_1
  try clear hfz8_2
  obtain ⟨x11_1, rfl, HA, HK1, HO_9, BK483, BK484, HB⟩ := hrel
  cases gk with
  | zero => exact absurd HA.out (by simp [impl_FirstTrouble.l0])
  | succ k1 =>
   have H := HA.out
   clear HA
   simp only [impl_FirstTrouble.l0] at H
   by_cases c11 : x11_1 < (t485.length : Int)
   ·rw [if_pos c11] at H
    have c11b0 : decide (x11_1 < (t485.length : Int)) = true := decide_eq_true c11
    clear c11
    by_cases c12 : 0 ≤ x11_1
    ·rw [if_pos c12] at H
     have c12b0 : decide (0 ≤ x11_1) = true := decide_eq_true c12
     clear c12
     by_cases c13 : x11_1 < (t485.length : Int)
     ·rw [if_pos c13] at H
      have c13b0 : decide (x11_1 < (t485.length : Int)) = true := decide_eq_true c13
      clear c13
      by_cases c14 : 0 < ((rd_L4 t485 x11_1).length : Int)
      ·rw [if_pos c14] at H
       have c14b0 : decide (0 < ((rd_L4 t485 x11_1).length : Int)) = true := decide_eq_true c14
       have c14b1 : decide (0 < (rd_L4 t485 x11_1).length) = true := decide_eq_true (by omega)
       clear c14
       by_cases c15 : 1 < ((rd_L4 t485 x11_1).length : Int)
       ·rw [if_pos c15] at H
        have c15b0 : decide (1 < ((rd_L4 t485 x11_1).length : Int)) = true := decide_eq_true c15
        have c15b1 : decide (1 < (rd_L4 t485 x11_1).length) = true := decide_eq_true (by omega)
        clear c15
        replace H := Option.bind_eq_some_iff.mp H
        obtain ⟨t491, A160, H⟩ := H
        replace H : (if t491 = 0 then (impl_FirstTrouble.l0 k1 t485 (t485.length : Int) (wrap64 (x11_1 + 1)) a0_0 l0_1 l0_2 a1_0 l1_1 l1_2) else (some (rd_L4 t485 x11_1))) = some r := H
        have A16 := Aside0.mk A160
        clear A160
        by_cases c17 : t491 = 0
        ·rw [if_pos c17] at H
         have c17b0 : (t491 == 0) = true := beq_iff_eq.mpr c17
         have c17b1 : (t491 != 0) = false := bne_eq_false_iff_eq.mpr c17
         clear c17
         have H' := Aside0.mk H
         clear H
         have p488 : 0 ≤ (x11_1 : Int) := of_decide_eq_true (by first | (with_reducible assumption) | assumption)
         have q488 : x11_1 < (t485.length : Int) := of_decide_eq_true (by first | (with_reducible assumption) | assumption)
         obtain ⟨ad488, A488_0, c488_0, e488, hx488_0, hl488_0, hi488_0⟩ := at_L4 (Kd.N_reads' HO_9.out).2.2 x11_1 p488 q488
         cases e488
         obtain ⟨ce488, hce488, hMe488, hcc488⟩ := Kd.N_get HO_9.out [] x11_1 p488 (by first | exact q488 | exact of_decide_eq_true (by first | (with_reducible assumption) | assumption) | (have e_ := (Kd.N_reads' HO_9.out).1; omega))
         obtain ⟨ua488_0, uc488_0, rfl, ul488_0, ge488_0⟩ := Kd.FK_slice_open hMe488
         have hv488_0 := hcc488 0 _ rfl
         rw [Nat.add_zero, show ((Kd.slice 3 (Kd.int .i64))).sz = 1 from rfl, Nat.mul_one] at hv488_0
         replace hv488_0 := Option.some.inj (hv488_0.symm.trans hx488_0)
         injection hv488_0 with hva_ hvn_ hvc_
         rw [hva_] at ge488_0
         rw [hvc_] at ul488_0
         have HL488_0 := Aside0.mk (show Kd.V (Kd.int .i64) 3 _ w.heap.size _ _ (rd_L4 t485 x11_1) from Kd.V_mk ul488_0 ge488_0)
         clear hva_ hvn_ hvc_ ge488_0 ul488_0
         clear hcc488 hce488
         have HR488_0 := Aside0.mk hi488_0
         have HC488_0 := Aside0.mk hl488_0
         clear hi488_0 hl488_0
         replace p488 := eq_true p488
         replace q488 := eq_true q488
         try go_wp2
         have n0_ := Aside0.mk (Kd.N_drew HO_9.out)
         have n1_ := Aside0.mk (Kd.V_drew HL488_0.out)
         have n2_ := Aside0.mk (blk_drew BK483.out)
         have n3_ := Aside0.mk (blk_drew BK484.out)
         have n4_ := Aside0.mk (Kd.C_drew HR488_0.out)
         have n5_ := Aside0.mk (below_drew1 HB.out)
         clear HO_9
         clear HL488_0
         clear BK483
         clear BK484
         clear HR488_0
         clear HB
         have HO_9 := n0_
         have HL488_0 := n1_
         have BK483 := n2_
         have BK484 := n3_
         have HR488_0 := n4_
         have HB := n5_
         clear n0_ n1_ n2_ n3_ n4_ n5_
         have p489 : 0 ≤ (0 : Int) := (by omega)
         have q489 : 0 < ((rd_L4 t485 x11_1).length : Int) := of_decide_eq_true (by first | (with_reducible assumption) | assumption)
         obtain ⟨ad489, e489, hx489_0⟩ := Kd.at_int (by repeat (first | (with_reducible exact HR488_0.out) | (with_reducible refine Kd.C_alloc ?_ _) | (with_reducible refine Kd.C_drewN ?_ _) | (with_reducible refine Kd.C_drew ?_) | exact HR488_0.out)) 0 p489 q489
         cases e489
         have qi489 : (0 < (rd_L4 t485 x11_1).length) = True := eq_true (by omega)
         (try rw [show ((0 : Int)).toNat = 0 from rfl] at hx489_0)
         (try rw [Addr.add_zero'] at hx489_0)
         replace p489 := eq_true p489
         replace q489 := eq_true q489
         have p490 : 0 ≤ (1 : Int) := (by omega)
         have q490 : 1 < ((rd_L4 t485 x11_1).length : Int) := of_decide_eq_true (by first | (with_reducible assumption) | assumption)
         obtain ⟨ad490, e490, hx490_0⟩ := Kd.at_int (by repeat (first | (with_reducible exact HR488_0.out) | (with_reducible refine Kd.C_alloc ?_ _) | (with_reducible refine Kd.C_drewN ?_ _) | (with_reducible refine Kd.C_drew ?_) | exact HR488_0.out)) 1 p490 q490
         obtain rfl : ad489 = ad490 := (by injection e490)
         (try simp only [show (1 : Int).toNat = 1 from rfl, Nat.reduceMul, Nat.reduceEqDiff, Go.Addr.add, ↓reduceIte] at hx490_0)
         have qi490 : (1 < (rd_L4 t485 x11_1).length) = True := eq_true (by omega)
         (try rw [show ((1 : Int)).toNat = 1 from rfl] at hx490_0)
         replace p490 := eq_true p490
         replace q490 := eq_true q490
         refine start_ (n := 10) (S := fun w' => w'.cell? ⟨gb483, 0, none⟩ = some (.int .i64 a0_0) ∧ w'.cell? ⟨gb483, 1, none⟩ = some (.slice A0_1 l0_1.length c0_1) ∧ w'.cell? ⟨gb483, 2, none⟩ = some (.slice A0_2 l0_2.length c0_2) ∧ w'.cell? ⟨gb484, 0, none⟩ = some (.int .i64 a1_0) ∧ w'.cell? ⟨gb484, 1, none⟩ = some (.slice A1_1 l1_1.length c1_1) ∧ w'.cell? ⟨gb484, 2, none⟩ = some (.slice A1_2 l1_2.length c1_2) ∧ w'.cell? ad489 = some (.int .i64 (rd (rd_L4 t485 x11_1) 0)) ∧ w'.cell? ⟨ad489.block, ad489.off + 1, none⟩ = some (.int .i64 (rd (rd_L4 t485 x11_1) 1))) (ds := []) (bm 10 0) (by kernel_rfl) rfl (bm0 _) ⟨bc0 BK483, bc1 BK483, bc2 BK483, bc0 BK484, bc1 BK484, bc2 BK484, hx489_0, hx490_0⟩ (fun hHeld => ?_); refine with_tabW impl_FirstTrouble.tab4 impl_FirstTrouble.bits4 (fun HT_ HW_ => ?_)
         generalize wr.drew = w18 at HO_9 HL488_0 BK483 BK484 HR488_0 HB hx489_0 hx490_0 hHeld ⊢
         refine pU 2 (some 17) (bm 10 4) HT_ rfl rfl ?_
         refine pU 3 (some 18) (bm 10 12) HT_ rfl rfl ?_
         refine pU 5 (some 20) (bm 10 44) HT_ rfl rfl ?_
         refine pU 6 (some 21) (bm 10 108) HT_ rfl rfl ?_
         refine tU 0 (some 15) (bm 10 109) HT_ HW_ rfl rfl hHeld ?_
         refine tU 1 (some 16) (bm 10 111) HT_ HW_ rfl rfl hHeld ?_
         refine tU 4 (some 19) (bm 10 127) HT_ HW_ rfl rfl hHeld ?_
         refine tU 7 (some 22) (bm 10 255) HT_ HW_ rfl rfl hHeld ?_
         refine one_ (i := 8) (N := some 23) (bm 10 511) rfl rfl (one_of HT_.out (by kernel_rfl)) (by decide) (fun K hK => ?_)
         refine goes_ Try.func54 (by kernel_rfl) rfl #[.agg #[.int .i64 a0_0, .slice A0_1 l0_1.length c0_1, .slice A0_2 l0_2.length c0_2], .agg #[.int .i64 a1_0, .slice A1_1 l1_1.length c1_1, .slice A1_2 l1_2.length c1_2], .int .i64 (rd (rd_L4 t485 x11_1) 0), .int .i64 (rd (rd_L4 t485 x11_1) 1)] (by rfl) rfl rfl zG ?_
         with_reducible refine (impl_TroubleAt.calls k1 a0_0 _ _ l0_1 _ _ l0_2 a1_0 _ _ l1_1 _ _ l1_2 (rd (rd_L4 t485 x11_1) 0) (rd (rd_L4 t485 x11_1) 1) t491 _ ?side1 ?side2 ?side3 ?side4 ?side5 ?side6 ?side7 ?side8 A16.out).mono ?_
         (case side1 => exact cS HR0_1 HB)
         (case side2 => exact HC0_1.out)
         (case side3 => exact cS HR0_2 HB)
         (case side4 => exact HC0_2.out)
         (case side5 => exact cS HR1_1 HB)
         (case side6 => exact HC1_1.out)
         (case side7 => exact cS HR1_2 HB)
         (case side8 => exact HC1_2.out)
         rintro e w19 ⟨rfl, hb⟩
         have HS6_ := (hb.cell (World.block_lt_of_cell? _ _ (hHeld.2.2.2.2.2.2.1))).trans (hHeld.2.2.2.2.2.2.1)
         have HS7_ := (hb.cell (World.block_lt_of_cell? _ _ (hHeld.2.2.2.2.2.2.2))).trans (hHeld.2.2.2.2.2.2.2)
         refine ⟨_, rfl, ?_⟩
         have n0_ := Aside0.mk (Kd.N_below (by (with_reducible repeat (first | apply Kd.N_alloc | apply Kd.N_drewN | apply Kd.N_drew)); exact HO_9.out) hb)
         have n1_ := Aside0.mk (Kd.V_below (by (with_reducible repeat (first | apply Kd.V_alloc | apply Kd.V_drewN | apply Kd.V_drew)); exact HL488_0.out) hb)
         have n2_ := kB BK483 hb
         have n3_ := kB BK484 hb
         have n4_ := Aside0.mk (Kd.C_below (by repeat (first | (with_reducible exact HR488_0.out) | (with_reducible refine Kd.C_alloc ?_ _) | (with_reducible refine Kd.C_drewN ?_ _) | (with_reducible refine Kd.C_drew ?_) | exact HR488_0.out)) hb)
         have n5_ := bS HB hb
         clear HO_9
         clear HL488_0
         clear BK483
         clear BK484
         clear HR488_0
         clear HB
         have HO_9 := n0_
         have HL488_0 := n1_
         have BK483 := n2_
         have BK484 := n3_
         have HR488_0 := n4_
         have HB := n5_
         clear n0_ n1_ n2_ n3_ n4_ n5_
         (try clear hb)
         (try clear hb2)
         (try clear hk)
         (try clear hi)
         refine hK.out _ _ ⟨bc0 BK483, bc1 BK483, bc2 BK483, bc0 BK484, bc1 BK484, bc2 BK484, HS6_, HS7_⟩ (fun hHeld => ?_)
         clear hK K
         refine norm_ (a' := ?_) ?_ ?_
         rotate_left
         ·show Act.put _ (some 23) _ = _
          simp only [Act.put, List.setIfInBounds_toArray, List.set_cons_zero, List.set_cons_succ, i64_w, i32_w]
          rfl
         refine pU 9 (some 24) (bm 10 1023) HT_ rfl rfl ?_
         refine done_ (done_of HT_.out (by kernel_rfl)) ?_
         try clear hHeld
         try go_wp2
         go_roundg k1
         case measure => have := HK1.out; omega
         case rel => exact ⟨(wrap64 (x11_1 + 1)), zF, H', ⟨by have := HK1.out; omega⟩, ⟨by (with_reducible repeat (first | apply Kd.N_alloc | apply Kd.N_drewN | apply Kd.N_drew)); exact HO_9.out⟩, ⟨zK BK483⟩, ⟨zK BK484⟩, ⟨zB HB⟩⟩
        ·rw [if_neg c17] at H
         have c17b0 : (t491 == 0) = false := beq_eq_false_iff_ne.mpr c17
         have c17b1 : (t491 != 0) = true := bne_iff_ne.mpr c17
         obtain rfl := Option.some.inj H
         have p488 : 0 ≤ (x11_1 : Int) := of_decide_eq_true (by first | (with_reducible assumption) | assumption)
         have q488 : x11_1 < (t485.length : Int) := of_decide_eq_true (by first | (with_reducible assumption) | assumption)
         obtain ⟨ad488, A488_0, c488_0, e488, hx488_0, hl488_0, hi488_0⟩ := at_L4 (Kd.N_reads' HO_9.out).2.2 x11_1 p488 q488
         cases e488
         obtain ⟨ce488, hce488, hMe488, hcc488⟩ := Kd.N_get HO_9.out [] x11_1 p488 (by first | exact q488 | exact of_decide_eq_true (by first | (with_reducible assumption) | assumption) | (have e_ := (Kd.N_reads' HO_9.out).1; omega))
         obtain ⟨ua488_0, uc488_0, rfl, ul488_0, ge488_0⟩ := Kd.FK_slice_open hMe488
         have hv488_0 := hcc488 0 _ rfl
         rw [Nat.add_zero, show ((Kd.slice 3 (Kd.int .i64))).sz = 1 from rfl, Nat.mul_one] at hv488_0
         replace hv488_0 := Option.some.inj (hv488_0.symm.trans hx488_0)
         injection hv488_0 with hva_ hvn_ hvc_
         rw [hva_] at ge488_0
         rw [hvc_] at ul488_0
         have HL488_0 := Aside0.mk (show Kd.V (Kd.int .i64) 3 _ w.heap.size _ _ (rd_L4 t485 x11_1) from Kd.V_mk ul488_0 ge488_0)
         clear hva_ hvn_ hvc_ ge488_0 ul488_0
         clear hcc488 hce488
         have HR488_0 := Aside0.mk hi488_0
         have HC488_0 := Aside0.mk hl488_0
         clear hi488_0 hl488_0
         replace p488 := eq_true p488
         replace q488 := eq_true q488
         try go_wp2
         have n0_ := Aside0.mk (Kd.N_drew HO_9.out)
         have n1_ := Aside0.mk (Kd.V_drew HL488_0.out)
         have n2_ := Aside0.mk (blk_drew BK483.out)
         have n3_ := Aside0.mk (blk_drew BK484.out)
         have n4_ := Aside0.mk (Kd.C_drew HR488_0.out)
         have n5_ := Aside0.mk (below_drew1 HB.out)
         clear HO_9
         clear HL488_0
         clear BK483
         clear BK484
         clear HR488_0
         clear HB
         have HO_9 := n0_
         have HL488_0 := n1_
         have BK483 := n2_
         have BK484 := n3_
         have HR488_0 := n4_
         have HB := n5_
         clear n0_ n1_ n2_ n3_ n4_ n5_
         have p489 : 0 ≤ (0 : Int) := (by omega)
         have q489 : 0 < ((rd_L4 t485 x11_1).length : Int) := of_decide_eq_true (by first | (with_reducible assumption) | assumption)
         obtain ⟨ad489, e489, hx489_0⟩ := Kd.at_int (by repeat (first | (with_reducible exact HR488_0.out) | (with_reducible refine Kd.C_alloc ?_ _) | (with_reducible refine Kd.C_drewN ?_ _) | (with_reducible refine Kd.C_drew ?_) | exact HR488_0.out)) 0 p489 q489
         cases e489
         have qi489 : (0 < (rd_L4 t485 x11_1).length) = True := eq_true (by omega)
         (try rw [show ((0 : Int)).toNat = 0 from rfl] at hx489_0)
         (try rw [Addr.add_zero'] at hx489_0)
         replace p489 := eq_true p489
         replace q489 := eq_true q489
         have p490 : 0 ≤ (1 : Int) := (by omega)
         have q490 : 1 < ((rd_L4 t485 x11_1).length : Int) := of_decide_eq_true (by first | (with_reducible assumption) | assumption)
         obtain ⟨ad490, e490, hx490_0⟩ := Kd.at_int (by repeat (first | (with_reducible exact HR488_0.out) | (with_reducible refine Kd.C_alloc ?_ _) | (with_reducible refine Kd.C_drewN ?_ _) | (with_reducible refine Kd.C_drew ?_) | exact HR488_0.out)) 1 p490 q490
         obtain rfl : ad489 = ad490 := (by injection e490)
         (try simp only [show (1 : Int).toNat = 1 from rfl, Nat.reduceMul, Nat.reduceEqDiff, Go.Addr.add, ↓reduceIte] at hx490_0)
         have qi490 : (1 < (rd_L4 t485 x11_1).length) = True := eq_true (by omega)
         (try rw [show ((1 : Int)).toNat = 1 from rfl] at hx490_0)
         replace p490 := eq_true p490
         replace q490 := eq_true q490
         refine start_ (n := 10) (S := fun w' => w'.cell? ⟨gb483, 0, none⟩ = some (.int .i64 a0_0) ∧ w'.cell? ⟨gb483, 1, none⟩ = some (.slice A0_1 l0_1.length c0_1) ∧ w'.cell? ⟨gb483, 2, none⟩ = some (.slice A0_2 l0_2.length c0_2) ∧ w'.cell? ⟨gb484, 0, none⟩ = some (.int .i64 a1_0) ∧ w'.cell? ⟨gb484, 1, none⟩ = some (.slice A1_1 l1_1.length c1_1) ∧ w'.cell? ⟨gb484, 2, none⟩ = some (.slice A1_2 l1_2.length c1_2) ∧ w'.cell? ad489 = some (.int .i64 (rd (rd_L4 t485 x11_1) 0)) ∧ w'.cell? ⟨ad489.block, ad489.off + 1, none⟩ = some (.int .i64 (rd (rd_L4 t485 x11_1) 1))) (ds := []) (bm 10 0) (by kernel_rfl) rfl (bm0 _) ⟨bc0 BK483, bc1 BK483, bc2 BK483, bc0 BK484, bc1 BK484, bc2 BK484, hx489_0, hx490_0⟩ (fun hHeld => ?_); refine with_tabW impl_FirstTrouble.tab4 impl_FirstTrouble.bits4 (fun HT_ HW_ => ?_)
         generalize wr.drew = w20 at HO_9 HL488_0 BK483 BK484 HR488_0 HB hx489_0 hx490_0 hHeld ⊢
         refine pU 2 (some 17) (bm 10 4) HT_ rfl rfl ?_
         refine pU 3 (some 18) (bm 10 12) HT_ rfl rfl ?_
         refine pU 5 (some 20) (bm 10 44) HT_ rfl rfl ?_
         refine pU 6 (some 21) (bm 10 108) HT_ rfl rfl ?_
         refine tU 0 (some 15) (bm 10 109) HT_ HW_ rfl rfl hHeld ?_
         refine tU 1 (some 16) (bm 10 111) HT_ HW_ rfl rfl hHeld ?_
         refine tU 4 (some 19) (bm 10 127) HT_ HW_ rfl rfl hHeld ?_
         refine tU 7 (some 22) (bm 10 255) HT_ HW_ rfl rfl hHeld ?_
         refine one_ (i := 8) (N := some 23) (bm 10 511) rfl rfl (one_of HT_.out (by kernel_rfl)) (by decide) (fun K hK => ?_)
         refine goes_ Try.func54 (by kernel_rfl) rfl #[.agg #[.int .i64 a0_0, .slice A0_1 l0_1.length c0_1, .slice A0_2 l0_2.length c0_2], .agg #[.int .i64 a1_0, .slice A1_1 l1_1.length c1_1, .slice A1_2 l1_2.length c1_2], .int .i64 (rd (rd_L4 t485 x11_1) 0), .int .i64 (rd (rd_L4 t485 x11_1) 1)] (by rfl) rfl rfl zG ?_
         with_reducible refine (impl_TroubleAt.calls k1 a0_0 _ _ l0_1 _ _ l0_2 a1_0 _ _ l1_1 _ _ l1_2 (rd (rd_L4 t485 x11_1) 0) (rd (rd_L4 t485 x11_1) 1) t491 _ ?side1 ?side2 ?side3 ?side4 ?side5 ?side6 ?side7 ?side8 A16.out).mono ?_
         (case side1 => exact cS HR0_1 HB)
         (case side2 => exact HC0_1.out)
         (case side3 => exact cS HR0_2 HB)
         (case side4 => exact HC0_2.out)
         (case side5 => exact cS HR1_1 HB)
         (case side6 => exact HC1_1.out)
         (case side7 => exact cS HR1_2 HB)
         (case side8 => exact HC1_2.out)
         rintro e w21 ⟨rfl, hb⟩
         have HS6_ := (hb.cell (World.block_lt_of_cell? _ _ (hHeld.2.2.2.2.2.2.1))).trans (hHeld.2.2.2.2.2.2.1)
         have HS7_ := (hb.cell (World.block_lt_of_cell? _ _ (hHeld.2.2.2.2.2.2.2))).trans (hHeld.2.2.2.2.2.2.2)
         refine ⟨_, rfl, ?_⟩
         have n0_ := Aside0.mk (Kd.N_below (by (with_reducible repeat (first | apply Kd.N_alloc | apply Kd.N_drewN | apply Kd.N_drew)); exact HO_9.out) hb)
         have n1_ := Aside0.mk (Kd.V_below (by (with_reducible repeat (first | apply Kd.V_alloc | apply Kd.V_drewN | apply Kd.V_drew)); exact HL488_0.out) hb)
         have n2_ := kB BK483 hb
         have n3_ := kB BK484 hb
         have n4_ := Aside0.mk (Kd.C_below (by repeat (first | (with_reducible exact HR488_0.out) | (with_reducible refine Kd.C_alloc ?_ _) | (with_reducible refine Kd.C_drewN ?_ _) | (with_reducible refine Kd.C_drew ?_) | exact HR488_0.out)) hb)
         have n5_ := bS HB hb
         clear HO_9
         clear HL488_0
         clear BK483
         clear BK484
         clear HR488_0
         clear HB
         have HO_9 := n0_
         have HL488_0 := n1_
         have BK483 := n2_
         have BK484 := n3_
         have HR488_0 := n4_
         have HB := n5_
         clear n0_ n1_ n2_ n3_ n4_ n5_
         (try clear hb)
         (try clear hb2)
         (try clear hk)
         (try clear hi)
         refine hK.out _ _ ⟨bc0 BK483, bc1 BK483, bc2 BK483, bc0 BK484, bc1 BK484, bc2 BK484, HS6_, HS7_⟩ (fun hHeld => ?_)
         clear hK K
         refine norm_ (a' := ?_) ?_ ?_
         rotate_left
         ·show Act.put _ (some 23) _ = _
          simp only [Act.put, List.setIfInBounds_toArray, List.set_cons_zero, List.set_cons_succ, i64_w, i32_w]
          rfl
         refine pU 9 (some 24) (bm 10 1023) HT_ rfl rfl ?_
         refine done_ (done_of HT_.out (by kernel_rfl)) ?_
         try clear hHeld
         try go_wp2
         go_ret
         exact ⟨_, by first | rfl | (simp [errW_none, errW_some] <;> rfl) | (simp [*, errW_none, errW_some] <;> rfl), by (with_reducible repeat (first | apply Kd.V_alloc | apply Kd.V_drewN | apply Kd.V_drew)); exact Kd.V_mono HL488_0.out (fun _ hk => hk.1.1), by repeat (first | (with_reducible first | exact HB.out | apply below_alloc | apply pw_below_drewN | apply below_drew1 | refine below_set ?_ GE483.out | refine below_set ?_ GE484.out) | exact HB.out)⟩
       ·rw [if_neg c15] at H
        exact absurd H (by simp)
      ·rw [if_neg c14] at H
       exact absurd H (by simp)
     ·rw [if_neg c13] at H
      exact absurd H (by simp)
    ·rw [if_neg c12] at H
     exact absurd H (by simp)
   ·rw [if_neg c11] at H
    have c11b0 : decide (x11_1 < (t485.length : Int)) = false := decide_eq_false c11
    clear c11
    obtain rfl := Option.some.inj H
    go_wp2
    go_ret
    exact ⟨_, by first | rfl | (simp [errW_none, errW_some] <;> rfl) | (simp [*, errW_none, errW_some] <;> rfl), (by exact Kd.V_nil _ _ _ _ _), by repeat (first | (with_reducible first | exact HB.out | apply below_alloc | apply pw_below_drewN | apply below_drew1 | refine below_set ?_ GE483.out | refine below_set ?_ GE484.out) | exact HB.out)⟩

/-! ### impl_IsSafe: function 26 -/
def impl_IsSafe.f (k : Nat) (a0_0 : Int) (l0_1 : List Bool) (l0_2 : List (S64)) (a1_0 : Int) (l1_1 : List Bool) (l1_2 : List (S64)) : Option (Bool) := (impl_IsMachine.f k a0_0 l0_1 l0_2).bind fun t494 => (if t494 = true then ((impl_IsMachine.f k a1_0 l1_1 l1_2).bind fun t495 => (if t495 = true then ((impl_FirstTrouble.f k a0_0 l0_1 l0_2 a1_0 l1_1 l1_2).bind fun t496 => (some ((t496.length : Int) == 0))) else (some false))) else (some false))
theorem impl_IsSafe.mono : ∀ a0 a1 a2 a3 a4 a5 k, LeO (impl_IsSafe.f k a0 a1 a2 a3 a4 a5) (impl_IsSafe.f (k + 1) a0 a1 a2 a3 a4 a5) := by
 intro a0 a1 a2 a3 a4 a5 k
 unfold impl_IsSafe.f
 repeat' first
   | (with_reducible exact impl_FirstTrouble.mono _ _ _ _ _ _ _)
   | (with_reducible exact impl_IsMachine.mono _ _ _ _)
   | (with_reducible exact LeO.refl _)
   | (with_reducible exact LeO.none _)
   | (with_reducible refine LeO.ite ?_ ?_)
   | (with_reducible refine LeO.bind ?_ (fun _ => ?_))
   | exact impl_FirstTrouble.mono _ _ _ _ _ _ _
   | exact impl_IsMachine.mono _ _ _ _
   | exact LeO.none _
   | refine LeO.ite ?_ ?_
   | refine LeO.bind ?_ (fun _ => ?_)
set_option maxHeartbeats 8000000 in
set_option maxRecDepth 100000 in
theorem impl_IsSafe.calls (k : Nat) (a0_0 : Int) (A0_1 : Option Addr) (c0_1 : Nat) (l0_1 : List Bool) (A0_2 : Option Addr) (c0_2 : Nat) (l0_2 : List (S64)) (a1_0 : Int) (A1_1 : Option Addr) (c1_1 : Nat) (l1_1 : List Bool) (A1_2 : Option Addr) (c1_2 : Nat) (l1_2 : List (S64)) (r : Bool) (w : World) (hr0_1 : Kd.C Kd.bool w A0_1 l0_1.length l0_1) (hc0_1 : l0_1.length ≤ c0_1) (hr0_2 : Kd.C k64 w A0_2 l0_2.length l0_2) (hc0_2 : l0_2.length ≤ c0_2) (hr1_1 : Kd.C Kd.bool w A1_1 l1_1.length l1_1) (hc1_1 : l1_1.length ≤ c1_1) (hr1_2 : Kd.C k64 w A1_2 l1_2.length l1_2) (hc1_2 : l1_2.length ≤ c1_2) (h : impl_IsSafe.f k a0_0 l0_1 l0_2 a1_0 l1_1 l1_2 = some r) :
  Calls Try.prog 26 #[.agg #[.int .i64 a0_0, .slice A0_1 l0_1.length c0_1, .slice A0_2 l0_2.length c0_2], .agg #[.int .i64 a1_0, .slice A1_1 l1_1.length c1_1, .slice A1_2 l1_2.length c1_2]] w fun e w' => e = .returned (.bool r) ∧ Below w.heap.size w w' := by
 have hu31 := Try.underlying31
 have HR0_1 := Aside0.mk hr0_1
 have HC0_1 := Aside0.mk hc0_1
 clear hr0_1 hc0_1
 have HR0_2 := Aside0.mk hr0_2
 have HC0_2 := Aside0.mk hc0_2
 clear hr0_2 hc0_2
 have HR1_1 := Aside0.mk hr1_1
 have HC1_1 := Aside0.mk hc1_1
 clear hr1_1 hc1_1
 have HR1_2 := Aside0.mk hr1_2
 have HC1_2 := Aside0.mk hc1_2
 clear hr1_2 hc1_2
 have HB := Aside0.mk (Below.refl w.heap.size w)
 have H : ((impl_IsMachine.f k a0_0 l0_1 l0_2).bind fun t494 => (if t494 = true then ((impl_IsMachine.f k a1_0 l1_1 l1_2).bind fun t495 => (if t495 = true then ((impl_FirstTrouble.f k a0_0 l0_1 l0_2 a1_0 l1_1 l1_2).bind fun t496 => (some ((t496.length : Int) == 0))) else (some false))) else (some false))) = some r := h
 clear h
 replace H := Option.bind_eq_some_iff.mp H
 obtain ⟨t494, A30, H⟩ := H
 replace H : (if t494 = true then ((impl_IsMachine.f k a1_0 l1_1 l1_2).bind fun t495 => (if t495 = true then ((impl_FirstTrouble.f k a0_0 l0_1 l0_2 a1_0 l1_1 l1_2).bind fun t496 => (some ((t496.length : Int) == 0))) else (some false))) else (some false)) = some r := H
 have A3 := Aside0.mk A30
 clear A30
 by_cases c4 : t494 = true
 ·subst c4
  have H1 : ((impl_IsMachine.f k a1_0 l1_1 l1_2).bind fun t495 => (if t495 = true then ((impl_FirstTrouble.f k a0_0 l0_1 l0_2 a1_0 l1_1 l1_2).bind fun t496 => (some ((t496.length : Int) == 0))) else (some false))) = some r := by rw [if_pos rfl] at H; exact H
  clear H
  have H := H1
  clear H1
  replace H := Option.bind_eq_some_iff.mp H
  obtain ⟨t495, A50, H⟩ := H
  replace H : (if t495 = true then ((impl_FirstTrouble.f k a0_0 l0_1 l0_2 a1_0 l1_1 l1_2).bind fun t496 => (some ((t496.length : Int) == 0))) else (some false)) = some r := H
  have A5 := Aside0.mk A50
  clear A50
  by_cases c6 : t495 = true
  ·subst c6
   have H1 : ((impl_FirstTrouble.f k a0_0 l0_1 l0_2 a1_0 l1_1 l1_2).bind fun t496 => (some ((t496.length : Int) == 0))) = some r := by rw [if_pos rfl] at H; exact H
   clear H
   have H := H1
   clear H1
   replace H := Option.bind_eq_some_iff.mp H
   obtain ⟨t496, A70, H⟩ := H
   replace H : (some ((t496.length : Int) == 0)) = some r := H
   have A7 := Aside0.mk A70
   clear A70
   obtain rfl := Option.some.inj H
   go_enter Try.func26, Try.ntmps26
   go_wp2_with (first | ((with_reducible refine gate_dst (N := 2) rfl ?_); (try (refine gate_guard (by rfl) ?_; dsimp only)); refine box_event ?hg (N := 2) ?hd (cs := #[.int .i64 a0_0, .slice A0_1 l0_1.length c0_1, .slice A0_2 l0_2.length c0_2]) (t := 31) ?hr ?_; (case hd => rfl); (case hg => rfl); (case hr => first | (go_simp; done) | (go_simp; rfl)); intro gb492 hg w8 hbox hb; have n0_ := bS HB hb; have n1_ := Aside0.mk (hbox); have n2_ := gS HB hg; have n3_ := gS HB hg; clear HB; have HB := n0_; have BK492 := n1_; have GW492 := n2_; have GE492 := n3_; clear n0_ n1_ n2_ n3_; clear hb hbox hg) | ((with_reducible refine gate_dst (N := 3) rfl ?_); (try (refine gate_guard (by rfl) ?_; dsimp only)); refine box_event ?hg (N := 3) ?hd (cs := #[.int .i64 a1_0, .slice A1_1 l1_1.length c1_1, .slice A1_2 l1_2.length c1_2]) (t := 31) ?hr ?_; (case hd => rfl); (case hg => rfl); (case hr => first | (go_simp; done) | (go_simp; rfl)); intro gb493 hg w9 hbox hb; have n0_ := kB BK492 hb; have n1_ := bS HB hb; have n2_ := Aside0.mk (hbox); have n3_ := gS HB hg; have n4_ := gS HB hg; have n5_ := Aside0.mk ((by rw [hg]; exact Nat.ne_of_lt (blk_lt (g := gb492) (o := .cells #[.int .i64 a0_0, .slice A0_1 l0_1.length c0_1, .slice A0_2 l0_2.length c0_2] 31 (0, 0)) (zK BK492)) : gb492 ≠ gb493)); have n6_ := Aside0.mk ((by rw [hg]; exact Nat.ne_of_gt (blk_lt (g := gb492) (o := .cells #[.int .i64 a0_0, .slice A0_1 l0_1.length c0_1, .slice A0_2 l0_2.length c0_2] 31 (0, 0)) (zK BK492)) : gb493 ≠ gb492)); clear BK492; clear HB; have BK492 := n0_; have HB := n1_; have BK493 := n2_; have GW493 := n3_; have GE493 := n4_; have NB492_493 := n5_; have NB493_492 := n6_; clear n0_ n1_ n2_ n3_ n4_ n5_ n6_; clear hb hbox hg; have hnb10 := NB492_493.out; have hnc10 := NB493_492.out; have hcz11_0 := bc0 BK492; have hcz11_1 := bc1 BK492; have hcz11_2 := bc2 BK492; have hfz11_0 := bf BK492 0; have hfz11_1 := bf BK492 1; have hfz11_2 := bf BK492 2) | ((with_reducible refine gate_callee (f := 41) rfl ?_); refine goesL_ (some 6) rfl rfl Try.func41 (by kernel_rfl) rfl #[.agg #[.int .i64 a0_0, .slice A0_1 l0_1.length c0_1, .slice A0_2 l0_2.length c0_2]] rfl zG ?_; (with_reducible refine (impl_IsMachine.calls k a0_0 _ _ l0_1 _ _ l0_2 true _ ?side1 ?side2 ?side3 ?side4 A3.out).mono ?_); (case side1 => exact cS HR0_1 HB); (case side2 => exact HC0_1.out); (case side3 => exact cS HR0_2 HB); (case side4 => exact HC0_2.out); rintro e w12 ⟨rfl, hb⟩; refine ⟨_, rfl, ?_⟩; have n0_ := kB BK492 hb; have n1_ := kB BK493 hb; have n2_ := bS HB hb; clear BK492; clear BK493; clear HB; have BK492 := n0_; have BK493 := n1_; have HB := n2_; clear n0_ n1_ n2_; (try clear hb); have hcz13_0 := bc0 BK493; have hcz13_1 := bc1 BK493; have hcz13_2 := bc2 BK493; have hfz13_0 := bf BK493 0; have hfz13_1 := bf BK493 1; have hfz13_2 := bf BK493 2) | (go_at_call 41; (with_reducible refine (impl_IsMachine.calls k a1_0 _ _ l1_1 _ _ l1_2 true _ ?side1 ?side2 ?side3 ?side4 A5.out).mono ?_); (case side1 => exact cS HR1_1 HB); (case side2 => exact HC1_1.out); (case side3 => exact cS HR1_2 HB); (case side4 => exact HC1_2.out); rintro e w14 ⟨rfl, hb⟩; have n0_ := kB BK492 hb; have n1_ := kB BK493 hb; have n2_ := bS HB hb; clear BK492; clear BK493; clear HB; have BK492 := n0_; have BK493 := n1_; have HB := n2_; clear n0_ n1_ n2_; (try clear hb); have hcz15_0 := bc0 BK492; have hcz15_1 := bc1 BK492; have hcz15_2 := bc2 BK492; have hfz15_0 := bf BK492 0; have hfz15_1 := bf BK492 1; have hfz15_2 := bf BK492 2; have hcz16_0 := bc0 BK493; have hcz16_1 := bc1 BK493; have hcz16_2 := bc2 BK493; have hfz16_0 := bf BK493 0; have hfz16_1 := bf BK493 1; have hfz16_2 := bf BK493 2) | (go_at_call 21; (with_reducible refine (impl_FirstTrouble.calls k a0_0 _ _ l0_1 _ _ l0_2 a1_0 _ _ l1_1 _ _ l1_2 t496 _ ?side1 ?side2 ?side3 ?side4 ?side5 ?side6 ?side7 ?side8 A7.out).mono ?_); (case side1 => exact cS HR0_1 HB); (case side2 => exact HC0_1.out); (case side3 => exact cS HR0_2 HB); (case side4 => exact HC0_2.out); (case side5 => exact cS HR1_1 HB); (case side6 => exact HC1_1.out); (case side7 => exact cS HR1_2 HB); (case side8 => exact HC1_2.out); rintro e w17 ⟨v497, rfl, ho0, hb⟩; have n0_ := Aside0.mk (Kd.V_lower (Kd.V_mono (ok' := fun k_ => k_ ≠ gb492 ∧ k_ ≠ gb493) ho0 (fun k_ hk_ => ⟨(Kd.freshB (g := gb492) (o := .cells #[.int .i64 a0_0, .slice A0_1 l0_1.length c0_1, .slice A0_2 l0_2.length c0_2] 31 (0, 0)) (zK BK492) k_ hk_), (Kd.freshB (g := gb493) (o := .cells #[.int .i64 a1_0, .slice A1_1 l1_1.length c1_1, .slice A1_2 l1_2.length c1_2] 31 (0, 0)) (zK BK493) k_ hk_)⟩)) (below_size (zB HB))); have n1_ := kB BK492 hb; have n2_ := kB BK493 hb; have n3_ := bS HB hb; clear BK492; clear BK493; clear HB; have HO498 := n0_; have BK492 := n1_; have BK493 := n2_; have HB := n3_; clear n0_ n1_ n2_ n3_; (try clear hb); (try clear ho0); obtain ⟨Ao18, co18, eo18⟩ := Kd.V_slice HO498.out; subst eo18))
   go_ret
   exact ⟨by first | rfl | (simp [errW_none, errW_some] <;> rfl) | (simp [*, errW_none, errW_some] <;> rfl), by repeat (first | (with_reducible first | exact HB.out | apply below_alloc | apply pw_below_drewN | apply below_drew1 | refine below_set ?_ GE492.out | refine below_set ?_ GE493.out) | exact HB.out)⟩
  ·replace c6 := Bool.eq_false_iff.mpr c6
   subst c6
   have H1 : (some false) = some r := by rw [if_neg (show ¬ (false = true) by decide)] at H; exact H
   clear H
   have H := H1
   clear H1
   obtain rfl := Option.some.inj H
   go_enter Try.func26, Try.ntmps26
   go_wp2_with (first | ((with_reducible refine gate_dst (N := 2) rfl ?_); (try (refine gate_guard (by rfl) ?_; dsimp only)); refine box_event ?hg (N := 2) ?hd (cs := #[.int .i64 a0_0, .slice A0_1 l0_1.length c0_1, .slice A0_2 l0_2.length c0_2]) (t := 31) ?hr ?_; (case hd => rfl); (case hg => rfl); (case hr => first | (go_simp; done) | (go_simp; rfl)); intro gb492 hg w19 hbox hb; have n0_ := bS HB hb; have n1_ := Aside0.mk (hbox); have n2_ := gS HB hg; have n3_ := gS HB hg; clear HB; have HB := n0_; have BK492 := n1_; have GW492 := n2_; have GE492 := n3_; clear n0_ n1_ n2_ n3_; clear hb hbox hg) | ((with_reducible refine gate_dst (N := 3) rfl ?_); (try (refine gate_guard (by rfl) ?_; dsimp only)); refine box_event ?hg (N := 3) ?hd (cs := #[.int .i64 a1_0, .slice A1_1 l1_1.length c1_1, .slice A1_2 l1_2.length c1_2]) (t := 31) ?hr ?_; (case hd => rfl); (case hg => rfl); (case hr => first | (go_simp; done) | (go_simp; rfl)); intro gb493 hg w20 hbox hb; have n0_ := kB BK492 hb; have n1_ := bS HB hb; have n2_ := Aside0.mk (hbox); have n3_ := gS HB hg; have n4_ := gS HB hg; have n5_ := Aside0.mk ((by rw [hg]; exact Nat.ne_of_lt (blk_lt (g := gb492) (o := .cells #[.int .i64 a0_0, .slice A0_1 l0_1.length c0_1, .slice A0_2 l0_2.length c0_2] 31 (0, 0)) (zK BK492)) : gb492 ≠ gb493)); have n6_ := Aside0.mk ((by rw [hg]; exact Nat.ne_of_gt (blk_lt (g := gb492) (o := .cells #[.int .i64 a0_0, .slice A0_1 l0_1.length c0_1, .slice A0_2 l0_2.length c0_2] 31 (0, 0)) (zK BK492)) : gb493 ≠ gb492)); clear BK492; clear HB; have BK492 := n0_; have HB := n1_; have BK493 := n2_; have GW493 := n3_; have GE493 := n4_; have NB492_493 := n5_; have NB493_492 := n6_; clear n0_ n1_ n2_ n3_ n4_ n5_ n6_; clear hb hbox hg; have hnb21 := NB492_493.out; have hnc21 := NB493_492.out; have hcz22_0 := bc0 BK492; have hcz22_1 := bc1 BK492; have hcz22_2 := bc2 BK492; have hfz22_0 := bf BK492 0; have hfz22_1 := bf BK492 1; have hfz22_2 := bf BK492 2) | ((with_reducible refine gate_callee (f := 41) rfl ?_); refine goesL_ (some 6) rfl rfl Try.func41 (by kernel_rfl) rfl #[.agg #[.int .i64 a0_0, .slice A0_1 l0_1.length c0_1, .slice A0_2 l0_2.length c0_2]] rfl zG ?_; (with_reducible refine (impl_IsMachine.calls k a0_0 _ _ l0_1 _ _ l0_2 true _ ?side1 ?side2 ?side3 ?side4 A3.out).mono ?_); (case side1 => exact cS HR0_1 HB); (case side2 => exact HC0_1.out); (case side3 => exact cS HR0_2 HB); (case side4 => exact HC0_2.out); rintro e w23 ⟨rfl, hb⟩; refine ⟨_, rfl, ?_⟩; have n0_ := kB BK492 hb; have n1_ := kB BK493 hb; have n2_ := bS HB hb; clear BK492; clear BK493; clear HB; have BK492 := n0_; have BK493 := n1_; have HB := n2_; clear n0_ n1_ n2_; (try clear hb); have hcz24_0 := bc0 BK493; have hcz24_1 := bc1 BK493; have hcz24_2 := bc2 BK493; have hfz24_0 := bf BK493 0; have hfz24_1 := bf BK493 1; have hfz24_2 := bf BK493 2) | (go_at_call 41; (with_reducible refine (impl_IsMachine.calls k a1_0 _ _ l1_1 _ _ l1_2 false _ ?side1 ?side2 ?side3 ?side4 A5.out).mono ?_); (case side1 => exact cS HR1_1 HB); (case side2 => exact HC1_1.out); (case side3 => exact cS HR1_2 HB); (case side4 => exact HC1_2.out); rintro e w25 ⟨rfl, hb⟩; have n0_ := kB BK492 hb; have n1_ := kB BK493 hb; have n2_ := bS HB hb; clear BK492; clear BK493; clear HB; have BK492 := n0_; have BK493 := n1_; have HB := n2_; clear n0_ n1_ n2_; (try clear hb)))
   go_ret
   exact ⟨by first | rfl | (simp [errW_none, errW_some] <;> rfl) | (simp [*, errW_none, errW_some] <;> rfl), by repeat (first | (with_reducible first | exact HB.out | apply below_alloc | apply pw_below_drewN | apply below_drew1 | refine below_set ?_ GE492.out | refine below_set ?_ GE493.out) | exact HB.out)⟩
 ·replace c4 := Bool.eq_false_iff.mpr c4
  subst c4
  have H1 : (some false) = some r := by rw [if_neg (show ¬ (false = true) by decide)] at H; exact H
  clear H
  have H := H1
  clear H1
  obtain rfl := Option.some.inj H
  go_enter Try.func26, Try.ntmps26
  go_wp2_with (first | ((with_reducible refine gate_dst (N := 2) rfl ?_); (try (refine gate_guard (by rfl) ?_; dsimp only)); refine box_event ?hg (N := 2) ?hd (cs := #[.int .i64 a0_0, .slice A0_1 l0_1.length c0_1, .slice A0_2 l0_2.length c0_2]) (t := 31) ?hr ?_; (case hd => rfl); (case hg => rfl); (case hr => first | (go_simp; done) | (go_simp; rfl)); intro gb492 hg w26 hbox hb; have n0_ := bS HB hb; have n1_ := Aside0.mk (hbox); have n2_ := gS HB hg; have n3_ := gS HB hg; clear HB; have HB := n0_; have BK492 := n1_; have GW492 := n2_; have GE492 := n3_; clear n0_ n1_ n2_ n3_; clear hb hbox hg) | ((with_reducible refine gate_dst (N := 3) rfl ?_); (try (refine gate_guard (by rfl) ?_; dsimp only)); refine box_event ?hg (N := 3) ?hd (cs := #[.int .i64 a1_0, .slice A1_1 l1_1.length c1_1, .slice A1_2 l1_2.length c1_2]) (t := 31) ?hr ?_; (case hd => rfl); (case hg => rfl); (case hr => first | (go_simp; done) | (go_simp; rfl)); intro gb493 hg w27 hbox hb; have n0_ := kB BK492 hb; have n1_ := bS HB hb; have n2_ := Aside0.mk (hbox); have n3_ := gS HB hg; have n4_ := gS HB hg; have n5_ := Aside0.mk ((by rw [hg]; exact Nat.ne_of_lt (blk_lt (g := gb492) (o := .cells #[.int .i64 a0_0, .slice A0_1 l0_1.length c0_1, .slice A0_2 l0_2.length c0_2] 31 (0, 0)) (zK BK492)) : gb492 ≠ gb493)); have n6_ := Aside0.mk ((by rw [hg]; exact Nat.ne_of_gt (blk_lt (g := gb492) (o := .cells #[.int .i64 a0_0, .slice A0_1 l0_1.length c0_1, .slice A0_2 l0_2.length c0_2] 31 (0, 0)) (zK BK492)) : gb493 ≠ gb492)); clear BK492; clear HB; have BK492 := n0_; have HB := n1_; have BK493 := n2_; have GW493 := n3_; have GE493 := n4_; have NB492_493 := n5_; have NB493_492 := n6_; clear n0_ n1_ n2_ n3_ n4_ n5_ n6_; clear hb hbox hg; have hnb28 := NB492_493.out; have hnc28 := NB493_492.out; have hcz29_0 := bc0 BK492; have hcz29_1 := bc1 BK492; have hcz29_2 := bc2 BK492; have hfz29_0 := bf BK492 0; have hfz29_1 := bf BK492 1; have hfz29_2 := bf BK492 2) | ((with_reducible refine gate_callee (f := 41) rfl ?_); refine goesL_ (some 6) rfl rfl Try.func41 (by kernel_rfl) rfl #[.agg #[.int .i64 a0_0, .slice A0_1 l0_1.length c0_1, .slice A0_2 l0_2.length c0_2]] rfl zG ?_; (with_reducible refine (impl_IsMachine.calls k a0_0 _ _ l0_1 _ _ l0_2 false _ ?side1 ?side2 ?side3 ?side4 A3.out).mono ?_); (case side1 => exact cS HR0_1 HB); (case side2 => exact HC0_1.out); (case side3 => exact cS HR0_2 HB); (case side4 => exact HC0_2.out); rintro e w30 ⟨rfl, hb⟩; refine ⟨_, rfl, ?_⟩; have n0_ := kB BK492 hb; have n1_ := kB BK493 hb; have n2_ := bS HB hb; clear BK492; clear BK493; clear HB; have BK492 := n0_; have BK493 := n1_; have HB := n2_; clear n0_ n1_ n2_; (try clear hb)))
  go_ret
  exact ⟨by first | rfl | (simp [errW_none, errW_some] <;> rfl) | (simp [*, errW_none, errW_some] <;> rfl), by repeat (first | (with_reducible first | exact HB.out | apply below_alloc | apply pw_below_drewN | apply below_drew1 | refine below_set ?_ GE492.out | refine below_set ?_ GE493.out) | exact HB.out)⟩

end Go.Proofs.Ytmenijbpglknbaa.PFnExactIsSafe
