-- WRITTEN by pp.py, this session's own wrapper around the print; not trusted: Lean checks it
import Derived.Test.YtmenijbpglknbaaPFnExactFirstTroublex0
import Derived.Test.YtmenijbpglknbaaPFnExactFirstTroublex6
import Derived.Test.YtmenijbpglknbaaPFnExactFirstTroublex7
namespace Go.Proofs.Ytmenijbpglknbaa.PFnExactFirstTrouble
open Go.RowKit Go.Proofs.Ytmenijbpglknbaa.Hw Go.Proofs.YtmenijbpglknbaaW.PrintWords Go.Proofs.YtmenijbpglknbaaW.PrintLast Go.Proofs.YtmenijbpglknbaaW.PrintMore
attribute [local go_sem] max2_int min2_int max_two min_two max_three min_three max_four min_four   -- for this text's walks alone
set_option linter.unusedVariables false
set_option linter.unusedSimpArgs false
set_option linter.unusedSectionVars false

/-! ### spec_FirstTrouble: function 20 -/
def spec_FirstTrouble.l0 : Nat → List (List Int) → Int → Int → List Bool → List (S64) → Int → List Bool → List (S64) → Option (List Int)
 | 0, _, _, _, _, _, _, _, _ => none
 | k + 1, x5, x6, x302000, x302001, x302002, x303000, x303001, x303002 => if x6 < (x5.length : Int) then (if 0 ≤ x6 then (if 0 < ((rd_L4 x5 x6).length : Int) then (if 1 < ((rd_L4 x5 x6).length : Int) then ((spec_TroubleAt.f k x302000 x302001 x302002 x303000 x303001 x303002 (rd (rd_L4 x5 x6) 0) (rd (rd_L4 x5 x6) 1)).bind fun t310 => (if t310 = 0 then (spec_FirstTrouble.l0 k x5 (wrap64 (x6 + 1)) x302000 x302001 x302002 x303000 x303001 x303002) else ((some (([] : List Int) : List Int)).bind fun y311 => (if y311.length + (rd_L4 x5 x6).length < 17592186044416 then (some (y311 ++ (rd_L4 x5 x6))) else (none))))) else (none)) else (none)) else (none)) else (some (([] : List Int)))
def spec_FirstTrouble.f (k : Nat) (a0_0 : Int) (l0_1 : List Bool) (l0_2 : List (S64)) (a1_0 : Int) (l1_1 : List Bool) (l1_2 : List (S64)) : Option (List Int) := (spec_PairsOf.f k a0_0 l0_1 l0_2 a1_0 l1_1 l1_2).bind fun t303 => (spec_FirstTrouble.l0 k t303 0 a0_0 l0_1 l0_2 a1_0 l1_1 l1_2)
theorem spec_FirstTrouble.mono_l : ∀ k, (∀ y0 y1 y2 y3 y4 y5 y6 y7, LeO (spec_FirstTrouble.l0 k y0 y1 y2 y3 y4 y5 y6 y7) (spec_FirstTrouble.l0 (k + 1) y0 y1 y2 y3 y4 y5 y6 y7))
 | 0 => fun _ _ _ _ _ _ _ _ r h => by simp [spec_FirstTrouble.l0] at h
 | k + 1 => by
  have ih0 := spec_FirstTrouble.mono_l k
  ·intro y0 y1 y2 y3 y4 y5 y6 y7
   unfold spec_FirstTrouble.l0
   repeat' first
   | (with_reducible exact ih0 _ _ _ _ _ _ _ _)
   | (with_reducible exact spec_PairsOf.mono _ _ _ _ _ _ _)
   | (with_reducible exact spec_TroubleAt.mono _ _ _ _ _ _ _ _ _)
   | (with_reducible exact LeO.refl _)
   | (with_reducible exact LeO.none _)
   | (with_reducible refine LeO.ite ?_ ?_)
   | (with_reducible refine LeO.bind ?_ (fun _ => ?_))
   | exact ih0 _ _ _ _ _ _ _ _
   | exact spec_PairsOf.mono _ _ _ _ _ _ _
   | exact spec_TroubleAt.mono _ _ _ _ _ _ _ _ _
   | exact LeO.none _
   | refine LeO.ite ?_ ?_
   | refine LeO.bind ?_ (fun _ => ?_)
theorem spec_FirstTrouble.mono : ∀ a0 a1 a2 a3 a4 a5 k, LeO (spec_FirstTrouble.f k a0 a1 a2 a3 a4 a5) (spec_FirstTrouble.f (k + 1) a0 a1 a2 a3 a4 a5) := by
 intro a0 a1 a2 a3 a4 a5 k
 have ih0 := spec_FirstTrouble.mono_l k
 unfold spec_FirstTrouble.f
 repeat' first
   | (with_reducible exact ih0 _ _ _ _ _ _ _ _)
   | (with_reducible exact spec_PairsOf.mono _ _ _ _ _ _ _)
   | (with_reducible exact spec_TroubleAt.mono _ _ _ _ _ _ _ _ _)
   | (with_reducible exact LeO.refl _)
   | (with_reducible exact LeO.none _)
   | (with_reducible refine LeO.ite ?_ ?_)
   | (with_reducible refine LeO.bind ?_ (fun _ => ?_))
   | exact ih0 _ _ _ _ _ _ _ _
   | exact spec_PairsOf.mono _ _ _ _ _ _ _
   | exact spec_TroubleAt.mono _ _ _ _ _ _ _ _ _
   | exact LeO.none _
   | refine LeO.ite ?_ ?_
   | refine LeO.bind ?_ (fun _ => ?_)
def spec_FirstTrouble.T5 : Bool × List (List Nat × List Nat) := (true, [([], []), ([], []), ([], []), ([], []), ([2, 3], [2, 3]), ([4], [4]), ([5], [5]), ([6], [6]), ([], []), ([], []), ([8, 9], [8, 9]), ([10], [10]), ([11], [11]), ([12], [12]), ([0, 1, 7, 13], [0, 1, 7, 13]), ([14], [14])])
def spec_FirstTrouble.B5 : List Nat := [0, 0, 0, 0, 12, 28, 60, 124, 0, 0, 768, 1792, 3840, 7936, 16383, 32767]
theorem spec_FirstTrouble.tab5 : rtab .any (opsOf Try.f20 5) = spec_FirstTrouble.T5 := by kernel_rfl
theorem spec_FirstTrouble.bits5 : waitsOk spec_FirstTrouble.T5.2 spec_FirstTrouble.B5 = true := by kernel_rfl
set_option maxHeartbeats 8000000 in
set_option maxRecDepth 100000 in
theorem spec_FirstTrouble.calls (k : Nat) (a0_0 : Int) (A0_1 : Option Addr) (c0_1 : Nat) (l0_1 : List Bool) (A0_2 : Option Addr) (c0_2 : Nat) (l0_2 : List (S64)) (a1_0 : Int) (A1_1 : Option Addr) (c1_1 : Nat) (l1_1 : List Bool) (A1_2 : Option Addr) (c1_2 : Nat) (l1_2 : List (S64)) (r : List Int) (w : World) (hr0_1 : Kd.C Kd.bool w A0_1 l0_1.length l0_1) (hc0_1 : l0_1.length ≤ c0_1) (hr0_2 : Kd.C k64 w A0_2 l0_2.length l0_2) (hc0_2 : l0_2.length ≤ c0_2) (hr1_1 : Kd.C Kd.bool w A1_1 l1_1.length l1_1) (hc1_1 : l1_1.length ≤ c1_1) (hr1_2 : Kd.C k64 w A1_2 l1_2.length l1_2) (hc1_2 : l1_2.length ≤ c1_2) (h : spec_FirstTrouble.f k a0_0 l0_1 l0_2 a1_0 l1_1 l1_2 = some r) :
  Calls Try.prog 20 #[.agg #[.int .i64 a0_0, .slice A0_1 l0_1.length c0_1, .slice A0_2 l0_2.length c0_2], .agg #[.int .i64 a1_0, .slice A1_1 l1_1.length c1_1, .slice A1_2 l1_2.length c1_2]] w fun e w' => ∃ v0_ : Value, e = .returned (v0_) ∧ Kd.R (Kd.int .i64) 3 w' w.heap.size (fun _ => True) v0_ r ∧ Below w.heap.size w w' := by
 have hu31 := Try.underlying31
 have HR0_1 := Aside0.mk hr0_1
 have HC0_1 := Aside0.mk hc0_1
 clear hr0_1 hc0_1
 have HR0_2 := Aside0.mk hr0_2
 have HC0_2 := Aside0.mk hc0_2
 clear hr0_2 hc0_2
 have HR1_1 := Aside0.mk hr1_1
 have HC1_1 := Aside0.mk hc1_1
 clear hr1_1 hc1_1
 have HR1_2 := Aside0.mk hr1_2
 have HC1_2 := Aside0.mk hc1_2
 clear hr1_2 hc1_2
 have HB := Aside0.mk (Below.refl w.heap.size w)
 have H : ((spec_PairsOf.f k a0_0 l0_1 l0_2 a1_0 l1_1 l1_2).bind fun t303 => (spec_FirstTrouble.l0 k t303 0 a0_0 l0_1 l0_2 a1_0 l1_1 l1_2)) = some r := h
 clear h
 obtain ⟨t303, A3, H⟩ := bindS H
 have H' := Aside0.mk H
 clear H
 go_enter Try.func20, Try.ntmps20
 go_wp2_with (first | ((with_reducible refine gate_dst (N := 2) rfl ?_); refine box_event ?hg (N := 2) ?hd (cs := #[.int .i64 a0_0, .slice A0_1 l0_1.length c0_1, .slice A0_2 l0_2.length c0_2]) (t := 31) ?hr ?_; (case hd => rfl); (case hg => rfl); (case hr => first | (go_simp; done) | (go_simp; rfl)); intro gb301 hg w4 hbox hb; have BK301 := Aside0.mk (hbox); have GW301 := gS HB hg; have GE301 := gS HB hg; replace HB := bS HB hb; clear hb hbox hg) | ((with_reducible refine gate_dst (N := 3) rfl ?_); refine box_event ?hg (N := 3) ?hd (cs := #[.int .i64 a1_0, .slice A1_1 l1_1.length c1_1, .slice A1_2 l1_2.length c1_2]) (t := 31) ?hr ?_; (case hd => rfl); (case hg => rfl); (case hr => first | (go_simp; done) | (go_simp; rfl)); intro gb302 hg w5 hbox hb; have BK302 := Aside0.mk (hbox); have GW302 := gS HB hg; have GE302 := gS HB hg; replace HB := bS HB hb; have NB301_302 := nL BK301 hg; have NB302_301 := nR BK301 hg; replace BK301 := kB BK301 hb; clear hb hbox hg; have hnb6 := NB301_302.out; have hnc6 := NB302_301.out; have hcz7_0 := bc0 BK301; have hcz7_1 := bc1 BK301; have hcz7_2 := bc2 BK301; have hfz7_0 := bf BK301 0; have hfz7_1 := bf BK301 1; have hfz7_2 := bf BK301 2; have hcz8_0 := bc0 BK302; have hcz8_1 := bc1 BK302; have hcz8_2 := bc2 BK302; have hfz8_0 := bf BK302 0; have hfz8_1 := bf BK302 1; have hfz8_2 := bf BK302 2) | ((with_reducible refine gate_callee (f := 10) rfl ?_); refine goesL_ (some 9) rfl rfl Try.func10 (by kernel_rfl) rfl #[.agg #[.int .i64 a0_0, .slice A0_1 l0_1.length c0_1, .slice A0_2 l0_2.length c0_2], .agg #[.int .i64 a1_0, .slice A1_1 l1_1.length c1_1, .slice A1_2 l1_2.length c1_2]] rfl zG ?_; (with_reducible refine (spec_PairsOf.calls k a0_0 _ _ l0_1 _ _ l0_2 a1_0 _ _ l1_1 _ _ l1_2 t303 _ ?side1 ?side2 ?side3 ?side4 ?side5 ?side6 ?side7 ?side8 A3.out).mono ?_); (case side1 => exact cS HR0_1 HB); (case side2 => exact HC0_1.out); (case side3 => exact cS HR0_2 HB); (case side4 => exact HC0_2.out); (case side5 => exact cS HR1_1 HB); (case side6 => exact HC1_1.out); (case side7 => exact cS HR1_2 HB); (case side8 => exact HC1_2.out); rintro e w9 ⟨v304, rfl, ho0, hb⟩; refine ⟨_, rfl, ?_⟩; have HO305 := Aside0.mk (Kd.N_lower (Kd.N_mono (ok' := fun k_ => k_ ≠ gb301 ∧ k_ ≠ gb302) ho0 (fun k_ hk_ => ⟨(Kd.freshB (g := gb301) (o := .cells #[.int .i64 a0_0, .slice A0_1 l0_1.length c0_1, .slice A0_2 l0_2.length c0_2] 31 (0, 0)) (zK BK301) k_ hk_), (Kd.freshB (g := gb302) (o := .cells #[.int .i64 a1_0, .slice A1_1 l1_1.length c1_1, .slice A1_2 l1_2.length c1_2] 31 (0, 0)) (zK BK302) k_ hk_)⟩)) (below_size (zB HB))); replace BK301 := kB BK301 hb; replace BK302 := kB BK302 hb; replace HB := bS HB hb; (try clear hb); (try clear ho0)))
 go_loopg [6] k (fun kq v6 w' => ∃ (x6_1 : Int), v6 = .int .i64 x6_1 ∧ Aside0 (spec_FirstTrouble.l0 kq t303 x6_1 a0_0 l0_1 l0_2 a1_0 l1_1 l1_2 = some r) ∧ Aside0 (kq ≤ k) ∧ Aside0 (Kd.N (Kd.slice 3 (Kd.int .i64)) 38 w' w.heap.size (fun k_ => k_ ≠ gb301 ∧ k_ ≠ gb302) v304 t303) ∧ Aside0 (w'.heap[gb301]? = some (.cells #[.int .i64 a0_0, (.slice A0_1 l0_1.length c0_1), (.slice A0_2 l0_2.length c0_2)] 31 (0, 0))) ∧ Aside0 (w'.heap[gb302]? = some (.cells #[.int .i64 a1_0, (.slice A1_1 l1_1.length c1_1), (.slice A1_2 l1_2.length c1_2)] 31 (0, 0))) ∧ Aside0 (Below w.heap.size w w'))
 case atStart => exact ⟨(0), zF, H', ⟨Nat.le_refl _⟩, ⟨by (with_reducible repeat (first | apply Kd.N_alloc | apply Kd.N_drewN | apply Kd.N_drew)); exact HO305.out⟩, ⟨zK BK301⟩, ⟨zK BK302⟩, ⟨zB HB⟩⟩
 case round =>
  clear H'
  try clear c1
  try clear c2
  try clear p2
  try clear c6
  try clear hcz7_0
  try clear hcz7_1
  try clear hcz7_2
  try clear hcz8_0
  try clear hcz8_1
  try clear hcz8_2
  try clear hfz7_0
  try clear hfz7_1
  try clear hfz7_2
  try clear hfz8_0
  try clear hfz8_1
  try clear hfz8_2
  obtain ⟨x6_1, rfl, HA, HK1, HO_5, BK301, BK302, HB⟩ := hrel
  cases gk with
  | zero => exact absurd HA.out (by simp [spec_FirstTrouble.l0])
  | succ k1 =>
   have H := HA.out
   clear HA
   simp only [spec_FirstTrouble.l0] at H
   by_cases c10 : x6_1 < (t303.length : Int)
   ·rw [if_pos c10] at H
    have c10b0 : decide (x6_1 < (t303.length : Int)) = true := decide_eq_true c10
    clear c10
    obtain ⟨c11, H⟩ := ifS H
    have c11b0 : decide (0 ≤ x6_1) = true := decide_eq_true c11
    clear c11
    obtain ⟨c12, H⟩ := ifS H
    have c12b0 : decide (0 < ((rd_L4 t303 x6_1).length : Int)) = true := decide_eq_true c12
    have c12b1 : decide (0 < (rd_L4 t303 x6_1).length) = true := decide_eq_true (by omega)
    clear c12
    obtain ⟨c13, H⟩ := ifS H
    have c13b0 : decide (1 < ((rd_L4 t303 x6_1).length : Int)) = true := decide_eq_true c13
    have c13b1 : decide (1 < (rd_L4 t303 x6_1).length) = true := decide_eq_true (by omega)
    clear c13
    obtain ⟨t310, A14, H⟩ := bindS H
    by_cases c15 : t310 = 0
    ·rw [if_pos c15] at H
     have c15b0 : (t310 == 0) = true := beq_iff_eq.mpr c15
     have c15b1 : (t310 != 0) = false := bne_eq_false_iff_eq.mpr c15
     clear c15
     have H' := Aside0.mk H
     clear H
     obtain ⟨Ao16, co16, eo16⟩ := Kd.N_slice HO_5.out
     subst eo16
     try go_wp2
     replace HO_5 := Aside0.mk (Kd.N_drew HO_5.out)
     replace BK301 := Aside0.mk (blk_drew BK301.out)
     replace BK302 := Aside0.mk (blk_drew BK302.out)
     replace HB := Aside0.mk (below_drew1 HB.out)
     have p306 : 0 ≤ (x6_1 : Int) := zD
     have q306 : x6_1 < (t303.length : Int) := zD
     obtain ⟨ad306, A306_0, c306_0, e306, hx306_0, hl306_0, hi306_0⟩ := at_L4 (Kd.N_reads' HO_5.out).2.2 x6_1 p306 q306
     cases e306
     obtain ⟨ce306, hce306, hMe306, hcc306⟩ := Kd.N_get HO_5.out [] x6_1 p306 (by first | exact q306 | exact zD | (have e_ := (Kd.N_reads' HO_5.out).1; omega))
     obtain ⟨ua306_0, uc306_0, rfl, ul306_0, ge306_0⟩ := Kd.FK_slice_open hMe306
     have hv306_0 := hcc306 0 _ rfl
     rw [Nat.add_zero, show ((Kd.slice 3 (Kd.int .i64))).sz = 1 from rfl, Nat.mul_one] at hv306_0
     replace hv306_0 := Option.some.inj (hv306_0.symm.trans hx306_0)
     injection hv306_0 with hva_ hvn_ hvc_
     rw [hva_] at ge306_0
     rw [hvc_] at ul306_0
     have HL306_0 := Aside0.mk (show Kd.V (Kd.int .i64) 3 _ w.heap.size _ _ (rd_L4 t303 x6_1) from Kd.V_mk ul306_0 ge306_0)
     clear hva_ hvn_ hvc_ ge306_0 ul306_0
     clear hcc306 hce306
     have HR306_0 := Aside0.mk hi306_0
     have HC306_0 := Aside0.mk hl306_0
     clear hi306_0 hl306_0
     replace p306 := eq_true p306
     replace q306 := eq_true q306
     have p307 : 0 ≤ (0 : Int) := (by omega)
     have q307 : 0 < ((rd_L4 t303 x6_1).length : Int) := zD
     obtain ⟨ad307, e307, hx307_0⟩ := Kd.at_int (by repeat (first | (with_reducible exact HR306_0.out) | (with_reducible refine Kd.C_alloc ?_ _) | (with_reducible refine Kd.C_drewN ?_ _) | (with_reducible refine Kd.C_drew ?_) | exact HR306_0.out)) 0 p307 q307
     cases e307
     have qi307 : (0 < (rd_L4 t303 x6_1).length) = True := eq_true (by omega)
     (try rw [show ((0 : Int)).toNat = 0 from rfl] at hx307_0)
     (try rw [Addr.add_zero'] at hx307_0)
     replace p307 := eq_true p307
     replace q307 := eq_true q307
     have p308 : 0 ≤ (x6_1 : Int) := zD
     have q308 : x6_1 < (t303.length : Int) := zD
     obtain ⟨ad308, A308_0, c308_0, e308, hx308_0, hl308_0, hi308_0⟩ := at_L4 (Kd.N_reads' HO_5.out).2.2 x6_1 p308 q308
     obtain rfl : ad306 = ad308 := (by injection e308)
     obtain ⟨ce308, hce308, hMe308, hcc308⟩ := Kd.N_get HO_5.out [] x6_1 p308 (by first | exact q308 | exact zD | (have e_ := (Kd.N_reads' HO_5.out).1; omega))
     obtain ⟨ua308_0, uc308_0, rfl, ul308_0, ge308_0⟩ := Kd.FK_slice_open hMe308
     have hv308_0 := hcc308 0 _ rfl
     rw [Nat.add_zero, show ((Kd.slice 3 (Kd.int .i64))).sz = 1 from rfl, Nat.mul_one] at hv308_0
     replace hv308_0 := Option.some.inj (hv308_0.symm.trans hx308_0)
     injection hv308_0 with hva_ hvn_ hvc_
     rw [hva_] at ge308_0
     rw [hvc_] at ul308_0
     have HL308_0 := Aside0.mk (show Kd.V (Kd.int .i64) 3 _ w.heap.size _ _ (rd_L4 t303 x6_1) from Kd.V_mk ul308_0 ge308_0)
     clear hva_ hvn_ hvc_ ge308_0 ul308_0
     clear hcc308 hce308
     have HR308_0 := Aside0.mk hi308_0
     have HC308_0 := Aside0.mk hl308_0
     clear hi308_0 hl308_0
     replace p308 := eq_true p308
     replace q308 := eq_true q308
     have ea_ := Option.some.inj (hx306_0.symm.trans hx308_0)
     injection ea_ with ea_ en_ ec_
     subst ea_
     subst ec_
     clear en_
     have p309 : 0 ≤ (1 : Int) := (by omega)
     have q309 : 1 < ((rd_L4 t303 x6_1).length : Int) := zD
     obtain ⟨ad309, e309, hx309_0⟩ := Kd.at_int (by repeat (first | (with_reducible exact HR308_0.out) | (with_reducible refine Kd.C_alloc ?_ _) | (with_reducible refine Kd.C_drewN ?_ _) | (with_reducible refine Kd.C_drew ?_) | exact HR308_0.out)) 1 p309 q309
     cases e309
     (try simp only [show (1 : Int).toNat = 1 from rfl, Nat.reduceMul, Nat.reduceEqDiff, Go.Addr.add, ↓reduceIte] at hx309_0)
     have qi309 : (1 < (rd_L4 t303 x6_1).length) = True := eq_true (by omega)
     (try rw [show ((1 : Int)).toNat = 1 from rfl] at hx309_0)
     replace p309 := eq_true p309
     replace q309 := eq_true q309
     refine start_ (n := 16) (S := fun w' => w'.cell? ⟨gb301, 0, none⟩ = some (.int .i64 a0_0) ∧ w'.cell? ⟨gb301, 1, none⟩ = some (.slice A0_1 l0_1.length c0_1) ∧ w'.cell? ⟨gb301, 2, none⟩ = some (.slice A0_2 l0_2.length c0_2) ∧ w'.cell? ⟨gb302, 0, none⟩ = some (.int .i64 a1_0) ∧ w'.cell? ⟨gb302, 1, none⟩ = some (.slice A1_1 l1_1.length c1_1) ∧ w'.cell? ⟨gb302, 2, none⟩ = some (.slice A1_2 l1_2.length c1_2) ∧ w'.cell? (ad306.add (x6_1).toNat) = some (.slice (some ad307) (rd_L4 t303 x6_1).length c306_0) ∧ w'.cell? ad307 = some (.int .i64 (rd (rd_L4 t303 x6_1) 0)) ∧ w'.cell? (ad306.add (x6_1).toNat) = some (.slice (some ad307) (rd_L4 t303 x6_1).length c306_0) ∧ w'.cell? ⟨ad307.block, ad307.off + 1, none⟩ = some (.int .i64 (rd (rd_L4 t303 x6_1) 1))) (ds := []) (bm 16 0) (by kernel_rfl) rfl (bm0 _) ⟨bc0 BK301, bc1 BK301, bc2 BK301, bc0 BK302, bc1 BK302, bc2 BK302, hx306_0, hx307_0, hx308_0, hx309_0⟩ (fun hHeld => ?_); refine with_tabW spec_FirstTrouble.tab5 spec_FirstTrouble.bits5 (fun HT_ HW_ => ?_)
     generalize wr.drew = w17 at HO_5 BK301 BK302 HB HL306_0 HL308_0 HR306_0 HR308_0 hx306_0 hx307_0 hx308_0 hx309_0 hHeld ⊢
     refine pU 2 (some 18) (bm 16 4) HT_ rfl rfl ?_
     refine pU 3 (some 19) (bm 16 12) HT_ rfl rfl ?_
     refine pU 4 (some 20) (bm 16 28) HT_ rfl rfl ?_
     refine pU 8 (some 24) (bm 16 284) HT_ rfl rfl ?_
     refine pU 9 (some 25) (bm 16 796) HT_ rfl rfl ?_
     refine pU 10 (some 26) (bm 16 1820) HT_ rfl rfl ?_
     refine tU 0 (some 16) (bm 16 1821) HT_ HW_ rfl rfl hHeld ?_
     refine tU 1 (some 17) (bm 16 1823) HT_ HW_ rfl rfl hHeld ?_
     refine tU 5 (some 21) (bm 16 1855) HT_ HW_ rfl rfl hHeld ?_
     refine pU 6 (some 22) (bm 16 1919) HT_ rfl rfl ?_
     refine tU 7 (some 23) (bm 16 2047) HT_ HW_ rfl rfl hHeld ?_
     refine tU 11 (some 27) (bm 16 4095) HT_ HW_ rfl rfl hHeld ?_
     refine pU 12 (some 28) (bm 16 8191) HT_ rfl rfl ?_
     refine tU 13 (some 29) (bm 16 16383) HT_ HW_ rfl rfl hHeld ?_
     refine one_ (i := 14) (N := some 30) (bm 16 32767) rfl rfl (one_of HT_.out (by kernel_rfl)) (by decide) (fun K hK => ?_)
     refine goes_ Try.func53 (by kernel_rfl) rfl #[.agg #[.int .i64 a0_0, .slice A0_1 l0_1.length c0_1, .slice A0_2 l0_2.length c0_2], .agg #[.int .i64 a1_0, .slice A1_1 l1_1.length c1_1, .slice A1_2 l1_2.length c1_2], .int .i64 (rd (rd_L4 t303 x6_1) 0), .int .i64 (rd (rd_L4 t303 x6_1) 1)] (by rfl) rfl rfl zG ?_
     with_reducible refine (spec_TroubleAt.calls k1 a0_0 _ _ l0_1 _ _ l0_2 a1_0 _ _ l1_1 _ _ l1_2 (rd (rd_L4 t303 x6_1) 0) (rd (rd_L4 t303 x6_1) 1) t310 _ ?side1 ?side2 ?side3 ?side4 ?side5 ?side6 ?side7 ?side8 A14.out).mono ?_
     (case side1 => exact cS HR0_1 HB)
     (case side2 => exact HC0_1.out)
     (case side3 => exact cS HR0_2 HB)
     (case side4 => exact HC0_2.out)
     (case side5 => exact cS HR1_1 HB)
     (case side6 => exact HC1_1.out)
     (case side7 => exact cS HR1_2 HB)
     (case side8 => exact HC1_2.out)
     rintro e w18 ⟨rfl, hb⟩
     have HS6_ := (hb.cell (World.block_lt_of_cell? _ _ (hHeld.2.2.2.2.2.2.1))).trans (hHeld.2.2.2.2.2.2.1)
     have HS7_ := (hb.cell (World.block_lt_of_cell? _ _ (hHeld.2.2.2.2.2.2.2.1))).trans (hHeld.2.2.2.2.2.2.2.1)
     have HS8_ := (hb.cell (World.block_lt_of_cell? _ _ (hHeld.2.2.2.2.2.2.2.2.1))).trans (hHeld.2.2.2.2.2.2.2.2.1)
     have HS9_ := (hb.cell (World.block_lt_of_cell? _ _ (hHeld.2.2.2.2.2.2.2.2.2))).trans (hHeld.2.2.2.2.2.2.2.2.2)
     refine ⟨_, rfl, ?_⟩
     replace HO_5 := Aside0.mk (Kd.N_below (by (with_reducible repeat (first | apply Kd.N_alloc | apply Kd.N_drewN | apply Kd.N_drew)); exact HO_5.out) hb)
     replace HL306_0 := Aside0.mk (Kd.V_below (by (with_reducible repeat (first | apply Kd.V_alloc | apply Kd.V_drewN | apply Kd.V_drew)); exact HL306_0.out) hb)
     replace HL308_0 := Aside0.mk (Kd.V_below (by (with_reducible repeat (first | apply Kd.V_alloc | apply Kd.V_drewN | apply Kd.V_drew)); exact HL308_0.out) hb)
     replace BK301 := kB BK301 hb
     replace BK302 := kB BK302 hb
     replace HR306_0 := Aside0.mk (Kd.C_below (by repeat (first | (with_reducible exact HR306_0.out) | (with_reducible refine Kd.C_alloc ?_ _) | (with_reducible refine Kd.C_drewN ?_ _) | (with_reducible refine Kd.C_drew ?_) | exact HR306_0.out)) hb)
     replace HR308_0 := Aside0.mk (Kd.C_below (by repeat (first | (with_reducible exact HR308_0.out) | (with_reducible refine Kd.C_alloc ?_ _) | (with_reducible refine Kd.C_drewN ?_ _) | (with_reducible refine Kd.C_drew ?_) | exact HR308_0.out)) hb)
     replace HB := bS HB hb
     (try clear hb)
     (try clear hb2)
     (try clear hk)
     (try clear hi)
     refine hK.out _ _ ⟨bc0 BK301, bc1 BK301, bc2 BK301, bc0 BK302, bc1 BK302, bc2 BK302, HS6_, HS7_, HS8_, HS9_⟩ (fun hHeld => ?_)
     clear hK K
     refine norm_ (a' := ?_) ?_ ?_
     rotate_left
     ·show Act.put _ (some 30) _ = _
      simp only [Act.put, List.setIfInBounds_toArray, List.set_cons_zero, List.set_cons_succ, i64_w, i32_w]
      rfl
     refine pU 15 (some 31) (bm 16 65535) HT_ rfl rfl ?_
     refine done_ (done_of HT_.out (by kernel_rfl)) ?_
     try clear hHeld
     try go_wp2
     go_roundg k1
     case measure => have := HK1.out; omega
     case rel => exact ⟨(wrap64 (x6_1 + 1)), zF, H', ⟨by have := HK1.out; omega⟩, ⟨by (with_reducible repeat (first | apply Kd.N_alloc | apply Kd.N_drewN | apply Kd.N_drew)); exact HO_5.out⟩, ⟨zK BK301⟩, ⟨zK BK302⟩, ⟨zB HB⟩⟩
    ·rw [if_neg c15] at H
     have c15b0 : (t310 == 0) = false := beq_eq_false_iff_ne.mpr c15
     have c15b1 : (t310 != 0) = true := bne_iff_ne.mpr c15
     obtain ⟨y311, hy311⟩ : ∃ y_ : List Int, y_ = (([] : List Int)) := ⟨_, rfl⟩
     replace H : (if y311.length + (rd_L4 t303 x6_1).length < 17592186044416 then (some (y311 ++ (rd_L4 t303 x6_1))) else (none)) = some r := by first | (rw [hy311]; with_reducible exact H) | (have H2_ := (Option.bind_some _ _).symm.trans H; rw [hy311]; with_reducible exact H2_) | (have H2_ := (Option.bind_some _ _).symm.trans H; with_reducible exact H2_) | with_reducible exact H | (rw [hy311]; exact H) | exact H
     have Ny311 := Aside0.mk hy311
     clear hy311
     obtain ⟨c19, H⟩ := ifS H
     have LMc19 := Aside0.mk c19
     clear c19
     obtain ⟨y315, hy315⟩ : ∃ y_ : List Int, y_ = (y311 ++ (rd_L4 t303 x6_1)) := ⟨_, rfl⟩
     replace H : (some y315) = some r := by first | (rw [hy315]; with_reducible exact H) | (have H2_ := (Option.bind_some _ _).symm.trans H; rw [hy315]; with_reducible exact H2_) | (have H2_ := (Option.bind_some _ _).symm.trans H; with_reducible exact H2_) | with_reducible exact H | (rw [hy315]; exact H) | exact H
     have Ny315 := Aside0.mk hy315
     clear hy315
     obtain rfl := Option.some.inj H
     obtain ⟨Ao20, co20, eo20⟩ := Kd.N_slice HO_5.out
     subst eo20
     try go_wp2
     replace HO_5 := Aside0.mk (Kd.N_drew HO_5.out)
     replace BK301 := Aside0.mk (blk_drew BK301.out)
     replace BK302 := Aside0.mk (blk_drew BK302.out)
     replace HB := Aside0.mk (below_drew1 HB.out)
     have p306 : 0 ≤ (x6_1 : Int) := zD
     have q306 : x6_1 < (t303.length : Int) := zD
     obtain ⟨ad306, A306_0, c306_0, e306, hx306_0, hl306_0, hi306_0⟩ := at_L4 (Kd.N_reads' HO_5.out).2.2 x6_1 p306 q306
     cases e306
     obtain ⟨ce306, hce306, hMe306, hcc306⟩ := Kd.N_get HO_5.out [] x6_1 p306 (by first | exact q306 | exact zD | (have e_ := (Kd.N_reads' HO_5.out).1; omega))
     obtain ⟨ua306_0, uc306_0, rfl, ul306_0, ge306_0⟩ := Kd.FK_slice_open hMe306
     have hv306_0 := hcc306 0 _ rfl
     rw [Nat.add_zero, show ((Kd.slice 3 (Kd.int .i64))).sz = 1 from rfl, Nat.mul_one] at hv306_0
     replace hv306_0 := Option.some.inj (hv306_0.symm.trans hx306_0)
     injection hv306_0 with hva_ hvn_ hvc_
     rw [hva_] at ge306_0
     rw [hvc_] at ul306_0
     have HL306_0 := Aside0.mk (show Kd.V (Kd.int .i64) 3 _ w.heap.size _ _ (rd_L4 t303 x6_1) from Kd.V_mk ul306_0 ge306_0)
     clear hva_ hvn_ hvc_ ge306_0 ul306_0
     clear hcc306 hce306
     have HR306_0 := Aside0.mk hi306_0
     have HC306_0 := Aside0.mk hl306_0
     clear hi306_0 hl306_0
     replace p306 := eq_true p306
     replace q306 := eq_true q306
     have p307 : 0 ≤ (0 : Int) := (by omega)
     have q307 : 0 < ((rd_L4 t303 x6_1).length : Int) := zD
     obtain ⟨ad307, e307, hx307_0⟩ := Kd.at_int (by repeat (first | (with_reducible exact HR306_0.out) | (with_reducible refine Kd.C_alloc ?_ _) | (with_reducible refine Kd.C_drewN ?_ _) | (with_reducible refine Kd.C_drew ?_) | exact HR306_0.out)) 0 p307 q307
     cases e307
     have qi307 : (0 < (rd_L4 t303 x6_1).length) = True := eq_true (by omega)
     (try rw [show ((0 : Int)).toNat = 0 from rfl] at hx307_0)
     (try rw [Addr.add_zero'] at hx307_0)
     replace p307 := eq_true p307
     replace q307 := eq_true q307
     have p308 : 0 ≤ (x6_1 : Int) := zD
     have q308 : x6_1 < (t303.length : Int) := zD
     obtain ⟨ad308, A308_0, c308_0, e308, hx308_0, hl308_0, hi308_0⟩ := at_L4 (Kd.N_reads' HO_5.out).2.2 x6_1 p308 q308
     obtain rfl : ad306 = ad308 := (by injection e308)
     obtain ⟨ce308, hce308, hMe308, hcc308⟩ := Kd.N_get HO_5.out [] x6_1 p308 (by first | exact q308 | exact zD | (have e_ := (Kd.N_reads' HO_5.out).1; omega))
     obtain ⟨ua308_0, uc308_0, rfl, ul308_0, ge308_0⟩ := Kd.FK_slice_open hMe308
     have hv308_0 := hcc308 0 _ rfl
     rw [Nat.add_zero, show ((Kd.slice 3 (Kd.int .i64))).sz = 1 from rfl, Nat.mul_one] at hv308_0
     replace hv308_0 := Option.some.inj (hv308_0.symm.trans hx308_0)
     injection hv308_0 with hva_ hvn_ hvc_
     rw [hva_] at ge308_0
     rw [hvc_] at ul308_0
     have HL308_0 := Aside0.mk (show Kd.V (Kd.int .i64) 3 _ w.heap.size _ _ (rd_L4 t303 x6_1) from Kd.V_mk ul308_0 ge308_0)
     clear hva_ hvn_ hvc_ ge308_0 ul308_0
     clear hcc308 hce308
     have HR308_0 := Aside0.mk hi308_0
     have HC308_0 := Aside0.mk hl308_0
     clear hi308_0 hl308_0
     replace p308 := eq_true p308
     replace q308 := eq_true q308
     have ea_ := Option.some.inj (hx306_0.symm.trans hx308_0)
     injection ea_ with ea_ en_ ec_
     subst ea_
     subst ec_
     clear en_
     have p309 : 0 ≤ (1 : Int) := (by omega)
     have q309 : 1 < ((rd_L4 t303 x6_1).length : Int) := zD
     obtain ⟨ad309, e309, hx309_0⟩ := Kd.at_int (by repeat (first | (with_reducible exact HR308_0.out) | (with_reducible refine Kd.C_alloc ?_ _) | (with_reducible refine Kd.C_drewN ?_ _) | (with_reducible refine Kd.C_drew ?_) | exact HR308_0.out)) 1 p309 q309
     cases e309
     (try simp only [show (1 : Int).toNat = 1 from rfl, Nat.reduceMul, Nat.reduceEqDiff, Go.Addr.add, ↓reduceIte] at hx309_0)
     have qi309 : (1 < (rd_L4 t303 x6_1).length) = True := eq_true (by omega)
     (try rw [show ((1 : Int)).toNat = 1 from rfl] at hx309_0)
     replace p309 := eq_true p309
     replace q309 := eq_true q309
     refine start_ (n := 16) (S := fun w' => w'.cell? ⟨gb301, 0, none⟩ = some (.int .i64 a0_0) ∧ w'.cell? ⟨gb301, 1, none⟩ = some (.slice A0_1 l0_1.length c0_1) ∧ w'.cell? ⟨gb301, 2, none⟩ = some (.slice A0_2 l0_2.length c0_2) ∧ w'.cell? ⟨gb302, 0, none⟩ = some (.int .i64 a1_0) ∧ w'.cell? ⟨gb302, 1, none⟩ = some (.slice A1_1 l1_1.length c1_1) ∧ w'.cell? ⟨gb302, 2, none⟩ = some (.slice A1_2 l1_2.length c1_2) ∧ w'.cell? (ad306.add (x6_1).toNat) = some (.slice (some ad307) (rd_L4 t303 x6_1).length c306_0) ∧ w'.cell? ad307 = some (.int .i64 (rd (rd_L4 t303 x6_1) 0)) ∧ w'.cell? (ad306.add (x6_1).toNat) = some (.slice (some ad307) (rd_L4 t303 x6_1).length c306_0) ∧ w'.cell? ⟨ad307.block, ad307.off + 1, none⟩ = some (.int .i64 (rd (rd_L4 t303 x6_1) 1))) (ds := []) (bm 16 0) (by kernel_rfl) rfl (bm0 _) ⟨bc0 BK301, bc1 BK301, bc2 BK301, bc0 BK302, bc1 BK302, bc2 BK302, hx306_0, hx307_0, hx308_0, hx309_0⟩ (fun hHeld => ?_); refine with_tabW spec_FirstTrouble.tab5 spec_FirstTrouble.bits5 (fun HT_ HW_ => ?_)
     generalize wr.drew = w21 at HO_5 BK301 BK302 HB HL306_0 HL308_0 HR306_0 HR308_0 hx306_0 hx307_0 hx308_0 hx309_0 hHeld ⊢
     refine pU 2 (some 18) (bm 16 4) HT_ rfl rfl ?_
     refine pU 3 (some 19) (bm 16 12) HT_ rfl rfl ?_
     refine pU 4 (some 20) (bm 16 28) HT_ rfl rfl ?_
     refine pU 8 (some 24) (bm 16 284) HT_ rfl rfl ?_
     refine pU 9 (some 25) (bm 16 796) HT_ rfl rfl ?_
     refine pU 10 (some 26) (bm 16 1820) HT_ rfl rfl ?_
     refine tU 0 (some 16) (bm 16 1821) HT_ HW_ rfl rfl hHeld ?_
     refine tU 1 (some 17) (bm 16 1823) HT_ HW_ rfl rfl hHeld ?_
     refine tU 5 (some 21) (bm 16 1855) HT_ HW_ rfl rfl hHeld ?_
     refine pU 6 (some 22) (bm 16 1919) HT_ rfl rfl ?_
     refine tU 7 (some 23) (bm 16 2047) HT_ HW_ rfl rfl hHeld ?_
     refine tU 11 (some 27) (bm 16 4095) HT_ HW_ rfl rfl hHeld ?_
     refine pU 12 (some 28) (bm 16 8191) HT_ rfl rfl ?_
     refine tU 13 (some 29) (bm 16 16383) HT_ HW_ rfl rfl hHeld ?_
     refine one_ (i := 14) (N := some 30) (bm 16 32767) rfl rfl (one_of HT_.out (by kernel_rfl)) (by decide) (fun K hK => ?_)
     refine goes_ Try.func53 (by kernel_rfl) rfl #[.agg #[.int .i64 a0_0, .slice A0_1 l0_1.length c0_1, .slice A0_2 l0_2.length c0_2], .agg #[.int .i64 a1_0, .slice A1_1 l1_1.length c1_1, .slice A1_2 l1_2.length c1_2], .int .i64 (rd (rd_L4 t303 x6_1) 0), .int .i64 (rd (rd_L4 t303 x6_1) 1)] (by rfl) rfl rfl zG ?_
     with_reducible refine (spec_TroubleAt.calls k1 a0_0 _ _ l0_1 _ _ l0_2 a1_0 _ _ l1_1 _ _ l1_2 (rd (rd_L4 t303 x6_1) 0) (rd (rd_L4 t303 x6_1) 1) t310 _ ?side1 ?side2 ?side3 ?side4 ?side5 ?side6 ?side7 ?side8 A14.out).mono ?_
     (case side1 => exact cS HR0_1 HB)
     (case side2 => exact HC0_1.out)
     (case side3 => exact cS HR0_2 HB)
     (case side4 => exact HC0_2.out)
     (case side5 => exact cS HR1_1 HB)
     (case side6 => exact HC1_1.out)
     (case side7 => exact cS HR1_2 HB)
     (case side8 => exact HC1_2.out)
     rintro e w22 ⟨rfl, hb⟩
     have HS6_ := (hb.cell (World.block_lt_of_cell? _ _ (hHeld.2.2.2.2.2.2.1))).trans (hHeld.2.2.2.2.2.2.1)
     have HS7_ := (hb.cell (World.block_lt_of_cell? _ _ (hHeld.2.2.2.2.2.2.2.1))).trans (hHeld.2.2.2.2.2.2.2.1)
     have HS8_ := (hb.cell (World.block_lt_of_cell? _ _ (hHeld.2.2.2.2.2.2.2.2.1))).trans (hHeld.2.2.2.2.2.2.2.2.1)
     have HS9_ := (hb.cell (World.block_lt_of_cell? _ _ (hHeld.2.2.2.2.2.2.2.2.2))).trans (hHeld.2.2.2.2.2.2.2.2.2)
     refine ⟨_, rfl, ?_⟩
     replace HO_5 := Aside0.mk (Kd.N_below (by (with_reducible repeat (first | apply Kd.N_alloc | apply Kd.N_drewN | apply Kd.N_drew)); exact HO_5.out) hb)
     replace HL306_0 := Aside0.mk (Kd.V_below (by (with_reducible repeat (first | apply Kd.V_alloc | apply Kd.V_drewN | apply Kd.V_drew)); exact HL306_0.out) hb)
     replace HL308_0 := Aside0.mk (Kd.V_below (by (with_reducible repeat (first | apply Kd.V_alloc | apply Kd.V_drewN | apply Kd.V_drew)); exact HL308_0.out) hb)
     replace BK301 := kB BK301 hb
     replace BK302 := kB BK302 hb
     replace HR306_0 := Aside0.mk (Kd.C_below (by repeat (first | (with_reducible exact HR306_0.out) | (with_reducible refine Kd.C_alloc ?_ _) | (with_reducible refine Kd.C_drewN ?_ _) | (with_reducible refine Kd.C_drew ?_) | exact HR306_0.out)) hb)
     replace HR308_0 := Aside0.mk (Kd.C_below (by repeat (first | (with_reducible exact HR308_0.out) | (with_reducible refine Kd.C_alloc ?_ _) | (with_reducible refine Kd.C_drewN ?_ _) | (with_reducible refine Kd.C_drew ?_) | exact HR308_0.out)) hb)
     replace HB := bS HB hb
     (try clear hb)
     (try clear hb2)
     (try clear hk)
     (try clear hi)
     refine hK.out _ _ ⟨bc0 BK301, bc1 BK301, bc2 BK301, bc0 BK302, bc1 BK302, bc2 BK302, HS6_, HS7_, HS8_, HS9_⟩ (fun hHeld => ?_)
     clear hK K
     refine norm_ (a' := ?_) ?_ ?_
     rotate_left
     ·show Act.put _ (some 30) _ = _
      simp only [Act.put, List.setIfInBounds_toArray, List.set_cons_zero, List.set_cons_succ, i64_w, i32_w]
      rfl
     refine pU 15 (some 31) (bm 16 65535) HT_ rfl rfl ?_
     refine done_ (done_of HT_.out (by kernel_rfl)) ?_
     try clear hHeld
     try go_wp2_with (first | ((with_reducible refine gate_dst (N := 32) rfl ?_); refine Kd.R_lit (Kd.int .i64) _ 3 ?hg (N := 32) ?hd (xs := ([] : List Int)) (inner := []) (ok := fun _ => True) (okp := fun _ => True) ?hr ?hp (fun _ hk => hk) trivial (Below.refl _ _) (Nat.le_refl _) (by simp) ?_; (case hd => rfl); (case hg => rfl); (case hr => first | (go_simp; done) | (go_simp; rfl)); (case hp => exact (Reps.none _ _)); intro v312 w23 ho24 hb hg_ hnew_; clear hg_ hnew_; (first | rw [← Ny311.out] at ho24 | (simp only [Int.reduceToNat] at ho24; rw [← Ny311.out] at ho24)); replace HO_5 := Aside0.mk (Kd.N_elder' (by (with_reducible repeat (first | apply Kd.N_alloc | apply Kd.N_drewN | apply Kd.N_drew)); exact HO_5.out) (Kd.R_base ho24) hb); replace HL306_0 := Aside0.mk (Kd.V_elder' (by (with_reducible repeat (first | apply Kd.V_alloc | apply Kd.V_drewN | apply Kd.V_drew)); exact HL306_0.out) (Kd.R_base ho24) hb); replace HL308_0 := Aside0.mk (Kd.V_elder' (by (with_reducible repeat (first | apply Kd.V_alloc | apply Kd.V_drewN | apply Kd.V_drew)); exact HL308_0.out) (Kd.R_base ho24) hb); have HO313 := Aside0.mk (Kd.R_lower ho24 (below_size (zB HB))); replace BK301 := kB BK301 hb; replace BK302 := kB BK302 hb; replace HR306_0 := Aside0.mk (Kd.C_below (by repeat (first | (with_reducible exact HR306_0.out) | (with_reducible refine Kd.C_alloc ?_ _) | (with_reducible refine Kd.C_drewN ?_ _) | (with_reducible refine Kd.C_drew ?_) | exact HR306_0.out)) hb); replace HR308_0 := Aside0.mk (Kd.C_below (by repeat (first | (with_reducible exact HR308_0.out) | (with_reducible refine Kd.C_alloc ?_ _) | (with_reducible refine Kd.C_drewN ?_ _) | (with_reducible refine Kd.C_drew ?_) | exact HR308_0.out)) hb); replace HB := bS HB hb; clear hb ho24; have p314 : 0 ≤ (x6_1 : Int) := zD; have q314 : x6_1 < (t303.length : Int) := zD; obtain ⟨ad314, A314_0, c314_0, e314, hx314_0, hl314_0, hi314_0⟩ := at_L4 (Kd.N_reads' HO_5.out).2.2 x6_1 p314 q314; obtain rfl : ad306 = ad314 := (by injection e314); obtain ⟨ce314, hce314, hMe314, hcc314⟩ := Kd.N_get HO_5.out [] x6_1 p314 (by first | exact q314 | exact zD | (have e_ := (Kd.N_reads' HO_5.out).1; omega)); obtain ⟨ua314_0, uc314_0, rfl, ul314_0, ge314_0⟩ := Kd.FK_slice_open hMe314; have hv314_0 := hcc314 0 _ rfl; rw [Nat.add_zero, show ((Kd.slice 3 (Kd.int .i64))).sz = 1 from rfl, Nat.mul_one] at hv314_0; replace hv314_0 := Option.some.inj (hv314_0.symm.trans hx314_0); injection hv314_0 with hva_ hvn_ hvc_; rw [hva_] at ge314_0; rw [hvc_] at ul314_0; have HL314_0 := Aside0.mk (show Kd.V (Kd.int .i64) 3 _ w.heap.size _ _ (rd_L4 t303 x6_1) from Kd.V_mk ul314_0 ge314_0); clear hva_ hvn_ hvc_ ge314_0 ul314_0; clear hcc314 hce314; have HR314_0 := Aside0.mk hi314_0; have HC314_0 := Aside0.mk hl314_0; clear hi314_0 hl314_0; replace p314 := eq_true p314; replace q314 := eq_true q314) | ((with_reducible refine gate_builtin (b := .append) (xs := #[.tmp 32, .tmp 36]) rfl ?_); at_builtin; refine Kd.R_append_rows (Kd.int .i64) (w0 := w) w.heap.size rfl (.tmp 32) (.tmp 36) 38 3 (.int .i64 0) 8 rfl Try.underlying38 info3 rfl (by decide) (by omega) v312 y311 (rd_L4 t303 x6_1) _ _ _ (fun _ => True) (fun _ => False) rfl rfl ?aO ?aR (fun _ _ h => h) (fun _ h => h.elim) ?aF ?aB ?aS ?aL ?_; (case aR => repeat (first | exact (by repeat (first | (with_reducible exact HR314_0.out) | (with_reducible refine Kd.C_alloc ?_ _) | (with_reducible refine Kd.C_drewN ?_ _) | (with_reducible refine Kd.C_drew ?_) | exact HR314_0.out)) | (with_reducible refine Kd.C_alloc ?_ _) | (with_reducible refine Kd.C_drewN ?_ _) | (with_reducible refine Kd.C_drew ?_))); (case aB => exact (zB HB)); (case aF => exact (fun _ _ => trivial)); (case aO => exact (zR HO313)); (case aS => exact (below_size (zB HB))); (case aL => have := LMc19.out; omega); intro v316 w25 ho hb hg hat; rw [← Ny315.out] at ho; replace HO_5 := Aside0.mk (Kd.N_afterv (ok := (fun k_ => k_ ≠ gb301 ∧ k_ ≠ gb302)) (by (with_reducible repeat (first | apply Kd.N_alloc | apply Kd.N_drewN | apply Kd.N_drew)); exact HO_5.out) hg hat); replace BK301 := Aside0.mk (blk_grown (g := gb301) (o := .cells #[.int .i64 a0_0, .slice A0_1 l0_1.length c0_1, .slice A0_2 l0_2.length c0_2] 31 (0, 0)) (zK BK301) hg (Kd.R_ne HO313.out BK301.out (by decide))); replace BK302 := Aside0.mk (blk_grown (g := gb302) (o := .cells #[.int .i64 a1_0, .slice A1_1 l1_1.length c1_1, .slice A1_2 l1_2.length c1_2] 31 (0, 0)) (zK BK302) hg (Kd.R_ne HO313.out BK302.out (by decide))); replace HL306_0 := Aside0.mk (Kd.V_afterv (ok := (fun k_ => some k_ ≠ (.slice (some ad306) t303.length co20 : Value).ownBlock ∧ k_ ≠ gb301 ∧ k_ ≠ gb302)) (by (with_reducible repeat (first | apply Kd.V_alloc | apply Kd.V_drewN | apply Kd.V_drew)); exact Kd.V_mono HL306_0.out (fun _ hk => ⟨⟨hk.1.2, ⟨hk.1.1.1, hk.1.1.2⟩⟩, hk.2⟩)) hg hat); replace HL308_0 := Aside0.mk (Kd.V_afterv (ok := (fun k_ => some k_ ≠ (.slice (some ad306) t303.length co20 : Value).ownBlock ∧ k_ ≠ gb301 ∧ k_ ≠ gb302)) (by (with_reducible repeat (first | apply Kd.V_alloc | apply Kd.V_drewN | apply Kd.V_drew)); exact Kd.V_mono HL308_0.out (fun _ hk => ⟨⟨hk.1.2, ⟨hk.1.1.1, hk.1.1.2⟩⟩, hk.2⟩)) hg hat); replace HL314_0 := Aside0.mk (Kd.V_afterv (ok := (fun k_ => some k_ ≠ (.slice (some ad306) t303.length co20 : Value).ownBlock ∧ k_ ≠ gb301 ∧ k_ ≠ gb302)) (by (with_reducible repeat (first | apply Kd.V_alloc | apply Kd.V_drewN | apply Kd.V_drew)); exact Kd.V_mono HL314_0.out (fun _ hk => ⟨⟨hk.2, ⟨hk.1.1.1, hk.1.1.2⟩⟩, hk.1.2⟩)) hg hat); replace HB := Aside0.mk (hb); have HO317 := Aside0.mk (ho); clear HO313; clear ho hb hg hat))
     go_ret
     exact ⟨_, zE, by (with_reducible repeat (first | apply Kd.R_alloc | apply Kd.R_drewN | apply Kd.R_drew)); exact HO317.out, zB HB⟩
   ·rw [if_neg c10] at H
    have c10b0 : decide (x6_1 < (t303.length : Int)) = false := decide_eq_false c10
    clear c10
    obtain ⟨y318, hy318⟩ : ∃ y_ : List Int, y_ = (([] : List Int)) := ⟨_, rfl⟩
    replace H : (some y318) = some r := by first | (rw [hy318]; with_reducible exact H) | (have H2_ := (Option.bind_some _ _).symm.trans H; rw [hy318]; with_reducible exact H2_) | (have H2_ := (Option.bind_some _ _).symm.trans H; with_reducible exact H2_) | with_reducible exact H | (rw [hy318]; exact H) | exact H
    have Ny318 := Aside0.mk hy318
    clear hy318
    obtain rfl := Option.some.inj H
    obtain ⟨Ao26, co26, eo26⟩ := Kd.N_slice HO_5.out
    subst eo26
    go_wp2_with (first | ((with_reducible refine gate_dst (N := 38) rfl ?_); refine Kd.R_lit (Kd.int .i64) _ 3 ?hg (N := 38) ?hd (xs := ([] : List Int)) (inner := []) (ok := fun _ => True) (okp := fun _ => True) ?hr ?hp (fun _ hk => hk) trivial (Below.refl _ _) (Nat.le_refl _) (by simp) ?_; (case hd => rfl); (case hg => rfl); (case hr => first | (go_simp; done) | (go_simp; rfl)); (case hp => exact (Reps.none _ _)); intro v319 w27 ho28 hb hg_ hnew_; clear hg_ hnew_; (first | rw [← Ny318.out] at ho28 | (simp only [Int.reduceToNat] at ho28; rw [← Ny318.out] at ho28)); replace HO_5 := Aside0.mk (Kd.N_elder' (by (with_reducible repeat (first | apply Kd.N_alloc | apply Kd.N_drewN | apply Kd.N_drew)); exact HO_5.out) (Kd.R_base ho28) hb); have HO320 := Aside0.mk (Kd.R_lower ho28 (below_size (zB HB))); replace BK301 := kB BK301 hb; replace BK302 := kB BK302 hb; replace HB := bS HB hb; clear hb ho28))
    go_ret
    exact ⟨_, zE, by (with_reducible repeat (first | apply Kd.R_alloc | apply Kd.R_drewN | apply Kd.R_drew)); exact HO320.out, zB HB⟩

/-! ### impl_InRange: function 60 -/
def impl_InRange.f (a0 : Int) (a1 : Int) (a2 : Int) : Option (Bool) := if a1 ≤ a0 then (some (decide (a0 ≤ a2))) else (some false)
set_option maxHeartbeats 8000000 in
set_option maxRecDepth 100000 in
theorem impl_InRange.calls (a0 : Int) (a1 : Int) (a2 : Int) (r : Bool) (w : World) (h : impl_InRange.f a0 a1 a2 = some r) :
  Calls Try.prog 60 #[.int .i64 a0, .int .i64 a1, .int .i64 a2] w fun e w' => e = .returned (.bool r) ∧ Drawn0 w w' := by
 have H : (if a1 ≤ a0 then (some (decide (a0 ≤ a2))) else (some false)) = some r := h
 clear h
 by_cases c4 : a1 ≤ a0
 ·rw [if_pos c4] at H
  have c4b0 : decide (a1 ≤ a0) = true := decide_eq_true c4
  clear c4
  obtain rfl := Option.some.inj H
  go_enter Try.func60, Try.ntmps60
  go_wp2
  go_ret
  exact ⟨by first | rfl | (simp; done) | (simp [*]; done), by repeat (first | exact Drawn0.refl _ | apply Drawn0.step)⟩
 ·rw [if_neg c4] at H
  have c4b0 : decide (a1 ≤ a0) = false := decide_eq_false c4
  clear c4
  obtain rfl := Option.some.inj H
  go_enter Try.func60, Try.ntmps60
  go_wp2
  go_ret
  exact ⟨by first | rfl | (simp; done) | (simp [*]; done), by repeat (first | exact Drawn0.refl _ | apply Drawn0.step)⟩

end Go.Proofs.Ytmenijbpglknbaa.PFnExactFirstTrouble
