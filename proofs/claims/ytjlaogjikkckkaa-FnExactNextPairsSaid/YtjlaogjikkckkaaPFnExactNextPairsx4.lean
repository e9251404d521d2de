-- WRITTEN by pp.py, this session's own wrapper around the print; not trusted: Lean checks it
import Derived.Test.YtjlaogjikkckkaaPFnExactNextPairsx0
import Derived.Test.YtjlaogjikkckkaaPFnExactNextPairsx3
namespace Go.Proofs.Ytjlaogjikkckkaa.PFnExactNextPairs
open Go.RowKit Go.Proofs.Ytjlaogjikkckkaa.Hw Go.Proofs.YtjlaogjikkckkaaW.PrintWords Go.Proofs.YtjlaogjikkckkaaW.PrintLast Go.Proofs.YtjlaogjikkckkaaW.PrintMore
attribute [local go_sem] max2_int min2_int max_two min_two max_three min_three max_four min_four   -- for this text's walks alone
set_option linter.unusedVariables false
set_option linter.unusedSimpArgs false
set_option linter.unusedSectionVars false

/-! ### spec_MovesFrom: function 48 -/
def spec_MovesFrom.l0 : Nat → Int → Bool → List Int → Int → Int → List Bool → List (S54) → Option (List Int)
 | 0, _, _, _, _, _, _, _ => none
 | k + 1, x1, x2, x7, x8, x194000, x194001, x194002 => if x8 < (x194002.length : Int) then (if 0 ≤ x8 then (if ((rd_T54 x194002 x8).f0) = x1 then (if (((rd_T54 x194002 x8).f1) == x2) = true then ((spec_l4Put.f k x7 ((rd_T54 x194002 x8).f2)).bind fun t200 => (spec_MovesFrom.l0 k x1 x2 t200 (wrap64 (x8 + 1)) x194000 x194001 x194002)) else (spec_MovesFrom.l0 k x1 x2 x7 (wrap64 (x8 + 1)) x194000 x194001 x194002)) else (spec_MovesFrom.l0 k x1 x2 x7 (wrap64 (x8 + 1)) x194000 x194001 x194002)) else (none)) else (some x7)
def spec_MovesFrom.f (k : Nat) (a0_0 : Int) (l0_1 : List Bool) (l0_2 : List (S54)) (a1 : Int) (a2 : Bool) : Option (List Int) := spec_MovesFrom.l0 k a1 a2 (([] : List Int)) 0 a0_0 l0_1 l0_2
theorem spec_MovesFrom.mono_l : ∀ k, (∀ y0 y1 y2 y3 y4 y5 y6, LeO (spec_MovesFrom.l0 k y0 y1 y2 y3 y4 y5 y6) (spec_MovesFrom.l0 (k + 1) y0 y1 y2 y3 y4 y5 y6))
 | 0 => fun _ _ _ _ _ _ _ r h => by simp [spec_MovesFrom.l0] at h
 | k + 1 => by
  have ih0 := spec_MovesFrom.mono_l k
  ·intro y0 y1 y2 y3 y4 y5 y6
   unfold spec_MovesFrom.l0
   repeat' first
   | (with_reducible exact ih0 _ _ _ _ _ _ _)
   | (with_reducible exact spec_l4Put.mono _ _ _)
   | (with_reducible exact LeO.refl _)
   | (with_reducible exact LeO.none _)
   | (with_reducible refine LeO.ite ?_ ?_)
   | (with_reducible refine LeO.bind ?_ (fun _ => ?_))
   | exact ih0 _ _ _ _ _ _ _
   | exact spec_l4Put.mono _ _ _
   | exact LeO.none _
   | refine LeO.ite ?_ ?_
   | refine LeO.bind ?_ (fun _ => ?_)
theorem spec_MovesFrom.mono : ∀ a0 a1 a2 a3 a4 k, LeO (spec_MovesFrom.f k a0 a1 a2 a3 a4) (spec_MovesFrom.f (k + 1) a0 a1 a2 a3 a4) := by
 intro a0 a1 a2 a3 a4 k
 have ih0 := spec_MovesFrom.mono_l k
 unfold spec_MovesFrom.f
 repeat' first
   | (with_reducible exact ih0 _ _ _ _ _ _ _)
   | (with_reducible exact spec_l4Put.mono _ _ _)
   | (with_reducible exact LeO.refl _)
   | (with_reducible exact LeO.none _)
   | (with_reducible refine LeO.ite ?_ ?_)
   | (with_reducible refine LeO.bind ?_ (fun _ => ?_))
   | exact ih0 _ _ _ _ _ _ _
   | exact spec_l4Put.mono _ _ _
   | exact LeO.none _
   | refine LeO.ite ?_ ?_
   | refine LeO.bind ?_ (fun _ => ?_)
set_option maxHeartbeats 8000000 in
set_option maxRecDepth 100000 in
theorem spec_MovesFrom.calls (k : Nat) (a0_0 : Int) (A0_1 : Option Addr) (c0_1 : Nat) (l0_1 : List Bool) (A0_2 : Option Addr) (c0_2 : Nat) (l0_2 : List (S54)) (a1 : Int) (a2 : Bool) (r : List Int) (w : World) (hr0_1 : Kd.C Kd.bool w A0_1 l0_1.length l0_1) (hc0_1 : l0_1.length ≤ c0_1) (hr0_2 : Kd.C k54 w A0_2 l0_2.length l0_2) (hc0_2 : l0_2.length ≤ c0_2) (h : spec_MovesFrom.f k a0_0 l0_1 l0_2 a1 a2 = some r) :
  Calls Try.prog 48 #[.agg #[.int .i64 a0_0, .slice A0_1 l0_1.length c0_1, .slice A0_2 l0_2.length c0_2], .int .i64 a1, .bool a2] w fun e w' => ∃ v0_ : Value, e = .returned (v0_) ∧ Kd.R (Kd.int .i64) 3 w' w.heap.size (fun _ => True) v0_ r ∧ Below w.heap.size w w' := by
 have hu29 := Try.underlying29
 have HR0_1 := Aside0.mk hr0_1
 have HC0_1 := Aside0.mk hc0_1
 clear hr0_1 hc0_1
 have HR0_2 := Aside0.mk hr0_2
 have HC0_2 := Aside0.mk hc0_2
 clear hr0_2 hc0_2
 have HB := Aside0.mk (Below.refl w.heap.size w)
 have H : (spec_MovesFrom.l0 k a1 a2 (([] : List Int)) 0 a0_0 l0_1 l0_2) = some r := h
 clear h
 obtain ⟨y194, hy194⟩ : ∃ y_ : List Int, y_ = (([] : List Int)) := ⟨_, rfl⟩
 replace H : (spec_MovesFrom.l0 k a1 a2 y194 0 a0_0 l0_1 l0_2) = some r := by first | (rw [hy194]; with_reducible exact H) | (have H2_ := (Option.bind_some _ _).symm.trans H; rw [hy194]; with_reducible exact H2_) | (have H2_ := (Option.bind_some _ _).symm.trans H; with_reducible exact H2_) | with_reducible exact H | (rw [hy194]; exact H) | exact H
 have Ny194 := Aside0.mk hy194
 clear hy194
 have H' := Aside0.mk H
 clear H
 go_enter Try.func48, Try.ntmps48
 go_wp2_with (first | ((with_reducible refine gate_dst (N := 3) rfl ?_); refine box_event ?hg (N := 3) ?hd (cs := #[.int .i64 a0_0, .slice A0_1 l0_1.length c0_1, .slice A0_2 l0_2.length c0_2]) (t := 29) ?hr ?_; (case hd => rfl); (case hg => rfl); (case hr => first | (go_simp; done) | (go_simp; rfl)); intro gb193 hg w4 hbox hb; have BK193 := Aside0.mk (hbox); have GW193 := gS HB hg; have GE193 := gS HB hg; replace HB := bS HB hb; clear hb hbox hg) | ((with_reducible refine gate_dst (N := 9) rfl ?_); refine Kd.R_lit (Kd.int .i64) _ 3 ?hg (N := 9) ?hd (xs := ([] : List Int)) (inner := []) (ok := fun _ => True) (okp := fun _ => True) ?hr ?hp (fun _ hk => hk) trivial (Below.refl _ _) (Nat.le_refl _) (by simp) ?_; (case hd => rfl); (case hg => rfl); (case hr => first | (go_simp; done) | (go_simp; rfl)); (case hp => exact (Reps.none _ _)); intro v195 w5 ho6 hb hg_ hnew_; clear hg_ hnew_; (first | rw [← Ny194.out] at ho6 | (simp only [Int.reduceToNat] at ho6; rw [← Ny194.out] at ho6)); have HO196 := Aside0.mk (Kd.R_lower ho6 (below_size (zB HB))); replace BK193 := kB BK193 hb; replace HB := bS HB hb; clear hb ho6))
 go_loopg [7, 8] k (fun kq v7 v8 w' => ∃ (x7_1 : List Int) (x8_1 : Int), v8 = .int .i64 x8_1 ∧ Aside0 (spec_MovesFrom.l0 kq a1 a2 x7_1 x8_1 a0_0 l0_1 l0_2 = some r) ∧ Aside0 (kq ≤ k) ∧ Aside0 (Kd.R (Kd.int .i64) 3 w' w.heap.size (fun _ => True) v7 x7_1) ∧ Aside0 (w'.heap[gb193]? = some (.cells #[.int .i64 a0_0, (.slice A0_1 l0_1.length c0_1), (.slice A0_2 l0_2.length c0_2)] 29 (0, 0))) ∧ Aside0 (Below w.heap.size w w'))
 case atStart => exact ⟨(y194), (0), zF, H', ⟨Nat.le_refl _⟩, ⟨zR HO196⟩, ⟨zK BK193⟩, ⟨zB HB⟩⟩
 case round =>
  clear H'
  try clear p2
  try clear c4
  obtain ⟨x7_1, x8_1, rfl, HA, HK1, HO_7, BK193, HB⟩ := hrel
  cases gk with
  | zero => exact absurd HA.out (by simp [spec_MovesFrom.l0])
  | succ k1 =>
   have H := HA.out
   clear HA
   simp only [spec_MovesFrom.l0] at H
   by_cases c7 : x8_1 < (l0_2.length : Int)
   ·rw [if_pos c7] at H
    have c7b0 : decide (x8_1 < (l0_2.length : Int)) = true := decide_eq_true c7
    clear c7
    obtain ⟨c8, H⟩ := ifS H
    have c8b0 : decide (0 ≤ x8_1) = true := decide_eq_true c8
    clear c8
    by_cases c9 : ((rd_T54 l0_2 x8_1).f0) = a1
    ·rw [if_pos c9] at H
     have c9b0 : (((rd_T54 l0_2 x8_1).f0) == a1) = true := beq_iff_eq.mpr c9
     have c9b1 : (((rd_T54 l0_2 x8_1).f0) != a1) = false := bne_eq_false_iff_eq.mpr c9
     clear c9
     by_cases c10 : (((rd_T54 l0_2 x8_1).f1) == a2) = true
     ·rw [if_pos c10] at H
      have c10b0 : (((rd_T54 l0_2 x8_1).f1) == a2) = true := c10
      (try (have c10b1 : decide (((rd_T54 l0_2 x8_1).f1) = a2) = true := by simpa using c10))
      (try (have c10b2 : (((rd_T54 l0_2 x8_1).f1) == a2) = true := by simpa using c10))
      clear c10
      obtain ⟨t200, A11, H⟩ := bindS H
      have H' := Aside0.mk H
      clear H
      have hcz12_0 := bc0 BK193
      have hcz12_1 := bc1 BK193
      have hcz12_2 := bc2 BK193
      have hfz12_0 := bf BK193 0
      have hfz12_1 := bf BK193 1
      have hfz12_2 := bf BK193 2
      have p197 : 0 ≤ (x8_1 : Int) := zD
      have q197 : x8_1 < (l0_2.length : Int) := zD
      obtain ⟨ad197, e197, hx197_0, hx197_1, hx197_2, hx197_3⟩ := at_T54 HR0_2.out x8_1 p197 q197
      cases e197
      replace hx197_0 := hL HB hx197_0
      replace hx197_1 := hL HB hx197_1
      replace hx197_2 := hL HB hx197_2
      replace hx197_3 := hL HB hx197_3
      replace p197 := eq_true p197
      replace q197 := eq_true q197
      have p198 : 0 ≤ (x8_1 : Int) := zD
      have q198 : x8_1 < (l0_2.length : Int) := zD
      obtain ⟨ad198, e198, hx198_0, hx198_1, hx198_2, hx198_3⟩ := at_T54 HR0_2.out x8_1 p198 q198
      obtain rfl : ad197 = ad198 := (by injection e198)
      replace hx198_0 := hL HB hx198_0
      replace hx198_1 := hL HB hx198_1
      replace hx198_2 := hL HB hx198_2
      replace hx198_3 := hL HB hx198_3
      replace p198 := eq_true p198
      replace q198 := eq_true q198
      have p199 : 0 ≤ (x8_1 : Int) := zD
      have q199 : x8_1 < (l0_2.length : Int) := zD
      obtain ⟨ad199, e199, hx199_0, hx199_1, hx199_2, hx199_3⟩ := at_T54 HR0_2.out x8_1 p199 q199
      obtain rfl : ad197 = ad199 := (by injection e199)
      replace hx199_0 := hL HB hx199_0
      replace hx199_1 := hL HB hx199_1
      replace hx199_2 := hL HB hx199_2
      replace hx199_3 := hL HB hx199_3
      replace p199 := eq_true p199
      replace q199 := eq_true q199
      obtain ⟨Ao13, co13, eo13⟩ := Kd.R_slice HO_7.out
      subst eo13
      go_wp2_with (first | ((with_reducible refine gate_callee (f := 59) rfl ?_); refine goesL_ (some 42) rfl rfl Try.func59 (by kernel_rfl) rfl #[.slice Ao13 x7_1.length co13, .int .i64 ((rd_T54 l0_2 x8_1).f2)] rfl zG ?_; (with_reducible refine (spec_l4Put.calls k1 _ _ x7_1 ((rd_T54 l0_2 x8_1).f2) t200 _ ?side1 ?side2 A11.out).mono ?_); (case side1 => repeat (first | exact (Kd.R_reads' HO_7.out).2.2 | (with_reducible refine Kd.C_alloc ?_ _) | (with_reducible refine Kd.C_drewN ?_ _) | (with_reducible refine Kd.C_drew ?_))); (case side2 => exact (Kd.R_reads' HO_7.out).2.1); rintro e w14 ⟨v201, rfl, ho0, hb⟩; refine ⟨_, rfl, ?_⟩; have HO202 := Aside0.mk (Kd.R_lower (Kd.R_new' ho0 (Kd.R_lt (zR HO_7))) (below_size (zB HB))); replace HO_7 := Aside0.mk (Kd.R_elder' (zR HO_7) (Kd.R_base ho0) hb); replace BK193 := kB BK193 hb; replace HB := bS HB hb; (try clear hb); (try clear ho0)))
      go_roundg k1
      case measure => have := HK1.out; omega
      case rel => exact ⟨(t200), (wrap64 (x8_1 + 1)), zF, H', ⟨by have := HK1.out; omega⟩, ⟨by (with_reducible repeat (first | apply Kd.R_alloc | apply Kd.R_drewN | apply Kd.R_drew)); exact Kd.R_mono HO202.out (fun _ hk => trivial)⟩, ⟨zK BK193⟩, ⟨zB HB⟩⟩
     ·rw [if_neg c10] at H
      have c10b0 : (((rd_T54 l0_2 x8_1).f1) == a2) = false := by simpa using c10
      (try (have c10b1 : decide (((rd_T54 l0_2 x8_1).f1) = a2) = false := by simpa using c10))
      (try (have c10b2 : (((rd_T54 l0_2 x8_1).f1) == a2) = false := by simpa using c10))
      (try (have c10b3 : ¬ (((rd_T54 l0_2 x8_1).f1) = a2) := by simpa using c10))
      clear c10
      have H' := Aside0.mk H
      clear H
      have hcz15_0 := bc0 BK193
      have hcz15_1 := bc1 BK193
      have hcz15_2 := bc2 BK193
      have hfz15_0 := bf BK193 0
      have hfz15_1 := bf BK193 1
      have hfz15_2 := bf BK193 2
      have p197 : 0 ≤ (x8_1 : Int) := zD
      have q197 : x8_1 < (l0_2.length : Int) := zD
      obtain ⟨ad197, e197, hx197_0, hx197_1, hx197_2, hx197_3⟩ := at_T54 HR0_2.out x8_1 p197 q197
      cases e197
      replace hx197_0 := hL HB hx197_0
      replace hx197_1 := hL HB hx197_1
      replace hx197_2 := hL HB hx197_2
      replace hx197_3 := hL HB hx197_3
      replace p197 := eq_true p197
      replace q197 := eq_true q197
      have p198 : 0 ≤ (x8_1 : Int) := zD
      have q198 : x8_1 < (l0_2.length : Int) := zD
      obtain ⟨ad198, e198, hx198_0, hx198_1, hx198_2, hx198_3⟩ := at_T54 HR0_2.out x8_1 p198 q198
      obtain rfl : ad197 = ad198 := (by injection e198)
      replace hx198_0 := hL HB hx198_0
      replace hx198_1 := hL HB hx198_1
      replace hx198_2 := hL HB hx198_2
      replace hx198_3 := hL HB hx198_3
      replace p198 := eq_true p198
      replace q198 := eq_true q198
      go_wp2
      go_roundg k1
      case measure => have := HK1.out; omega
      case rel => exact ⟨(x7_1), (wrap64 (x8_1 + 1)), zF, H', ⟨by have := HK1.out; omega⟩, ⟨zR HO_7⟩, ⟨zK BK193⟩, ⟨zB HB⟩⟩
    ·rw [if_neg c9] at H
     have c9b0 : (((rd_T54 l0_2 x8_1).f0) == a1) = false := beq_eq_false_iff_ne.mpr c9
     have c9b1 : (((rd_T54 l0_2 x8_1).f0) != a1) = true := bne_iff_ne.mpr c9
     have H' := Aside0.mk H
     clear H
     have hcz16_0 := bc0 BK193
     have hcz16_1 := bc1 BK193
     have hcz16_2 := bc2 BK193
     have hfz16_0 := bf BK193 0
     have hfz16_1 := bf BK193 1
     have hfz16_2 := bf BK193 2
     have p197 : 0 ≤ (x8_1 : Int) := zD
     have q197 : x8_1 < (l0_2.length : Int) := zD
     obtain ⟨ad197, e197, hx197_0, hx197_1, hx197_2, hx197_3⟩ := at_T54 HR0_2.out x8_1 p197 q197
     cases e197
     replace hx197_0 := hL HB hx197_0
     replace hx197_1 := hL HB hx197_1
     replace hx197_2 := hL HB hx197_2
     replace hx197_3 := hL HB hx197_3
     replace p197 := eq_true p197
     replace q197 := eq_true q197
     go_wp2
     go_roundg k1
     case measure => have := HK1.out; omega
     case rel => exact ⟨(x7_1), (wrap64 (x8_1 + 1)), zF, H', ⟨by have := HK1.out; omega⟩, ⟨zR HO_7⟩, ⟨zK BK193⟩, ⟨zB HB⟩⟩
   ·rw [if_neg c7] at H
    have c7b0 : decide (x8_1 < (l0_2.length : Int)) = false := decide_eq_false c7
    clear c7
    obtain rfl := Option.some.inj H
    have hcz17_0 := bc0 BK193
    have hcz17_1 := bc1 BK193
    have hcz17_2 := bc2 BK193
    have hfz17_0 := bf BK193 0
    have hfz17_1 := bf BK193 1
    have hfz17_2 := bf BK193 2
    go_wp2
    go_ret
    exact ⟨_, zE, by (with_reducible repeat (first | apply Kd.R_alloc | apply Kd.R_drewN | apply Kd.R_drew)); exact HO_7.out, zB HB⟩

/-! ### spec_MoveOf: function 49 -/
def spec_MoveOf.l0 : Nat → Int → Bool → Int → Int → Int → List Bool → List (S54) → Option (Int)
 | 0, _, _, _, _, _, _, _ => none
 | k + 1, x1, x2, x3, x9, x204000, x204001, x204002 => if x9 < (x204002.length : Int) then (if 0 ≤ x9 then (if ((rd_T54 x204002 x9).f0) = x1 then (if (((rd_T54 x204002 x9).f1) == x2) = true then (if ((rd_T54 x204002 x9).f2) = x3 then (some x9) else (spec_MoveOf.l0 k x1 x2 x3 (wrap64 (x9 + 1)) x204000 x204001 x204002)) else (spec_MoveOf.l0 k x1 x2 x3 (wrap64 (x9 + 1)) x204000 x204001 x204002)) else (spec_MoveOf.l0 k x1 x2 x3 (wrap64 (x9 + 1)) x204000 x204001 x204002)) else (none)) else (some (-1))
def spec_MoveOf.f (k : Nat) (a0_0 : Int) (l0_1 : List Bool) (l0_2 : List (S54)) (a1 : Int) (a2 : Bool) (a3 : Int) : Option (Int) := spec_MoveOf.l0 k a1 a2 a3 0 a0_0 l0_1 l0_2
theorem spec_MoveOf.mono_l : ∀ k, (∀ y0 y1 y2 y3 y4 y5 y6, LeO (spec_MoveOf.l0 k y0 y1 y2 y3 y4 y5 y6) (spec_MoveOf.l0 (k + 1) y0 y1 y2 y3 y4 y5 y6))
 | 0 => fun _ _ _ _ _ _ _ r h => by simp [spec_MoveOf.l0] at h
 | k + 1 => by
  have ih0 := spec_MoveOf.mono_l k
  ·intro y0 y1 y2 y3 y4 y5 y6
   unfold spec_MoveOf.l0
   repeat' first
   | (with_reducible exact ih0 _ _ _ _ _ _ _)
   | (with_reducible exact LeO.refl _)
   | (with_reducible exact LeO.none _)
   | (with_reducible refine LeO.ite ?_ ?_)
   | (with_reducible refine LeO.bind ?_ (fun _ => ?_))
   | exact ih0 _ _ _ _ _ _ _
   | exact LeO.none _
   | refine LeO.ite ?_ ?_
   | refine LeO.bind ?_ (fun _ => ?_)
theorem spec_MoveOf.mono : ∀ a0 a1 a2 a3 a4 a5 k, LeO (spec_MoveOf.f k a0 a1 a2 a3 a4 a5) (spec_MoveOf.f (k + 1) a0 a1 a2 a3 a4 a5) := by
 intro a0 a1 a2 a3 a4 a5 k
 have ih0 := spec_MoveOf.mono_l k
 unfold spec_MoveOf.f
 repeat' first
   | (with_reducible exact ih0 _ _ _ _ _ _ _)
   | (with_reducible exact LeO.refl _)
   | (with_reducible exact LeO.none _)
   | (with_reducible refine LeO.ite ?_ ?_)
   | (with_reducible refine LeO.bind ?_ (fun _ => ?_))
   | exact ih0 _ _ _ _ _ _ _
   | exact LeO.none _
   | refine LeO.ite ?_ ?_
   | refine LeO.bind ?_ (fun _ => ?_)
set_option maxHeartbeats 8000000 in
set_option maxRecDepth 100000 in
theorem spec_MoveOf.calls (k : Nat) (a0_0 : Int) (A0_1 : Option Addr) (c0_1 : Nat) (l0_1 : List Bool) (A0_2 : Option Addr) (c0_2 : Nat) (l0_2 : List (S54)) (a1 : Int) (a2 : Bool) (a3 : Int) (r : Int) (w : World) (hr0_1 : Kd.C Kd.bool w A0_1 l0_1.length l0_1) (hc0_1 : l0_1.length ≤ c0_1) (hr0_2 : Kd.C k54 w A0_2 l0_2.length l0_2) (hc0_2 : l0_2.length ≤ c0_2) (h : spec_MoveOf.f k a0_0 l0_1 l0_2 a1 a2 a3 = some r) :
  Calls Try.prog 49 #[.agg #[.int .i64 a0_0, .slice A0_1 l0_1.length c0_1, .slice A0_2 l0_2.length c0_2], .int .i64 a1, .bool a2, .int .i64 a3] w fun e w' => e = .returned (.int .i64 r) ∧ Below w.heap.size w w' := by
 have hu29 := Try.underlying29
 have hu54 := Try.underlying54
 have HR0_1 := Aside0.mk hr0_1
 have HC0_1 := Aside0.mk hc0_1
 clear hr0_1 hc0_1
 have HR0_2 := Aside0.mk hr0_2
 have HC0_2 := Aside0.mk hc0_2
 clear hr0_2 hc0_2
 have HB := Aside0.mk (Below.refl w.heap.size w)
 have H : (spec_MoveOf.l0 k a1 a2 a3 0 a0_0 l0_1 l0_2) = some r := h
 clear h
 have H' := Aside0.mk H
 clear H
 go_enter Try.func49, Try.ntmps49
 go_wp2_with (first | ((with_reducible refine gate_dst (N := 4) rfl ?_); refine box_event ?hg (N := 4) ?hd (cs := #[.int .i64 a0_0, .slice A0_1 l0_1.length c0_1, .slice A0_2 l0_2.length c0_2]) (t := 29) ?hr ?_; (case hd => rfl); (case hg => rfl); (case hr => first | (go_simp; done) | (go_simp; rfl)); intro gb203 hg w5 hbox hb; have BK203 := Aside0.mk (hbox); have GW203 := gS HB hg; have GE203 := gS HB hg; replace HB := bS HB hb; clear hb hbox hg))
 go_loopg [9] k (fun kq v9 w' => ∃ (x9_1 : Int), v9 = .int .i64 x9_1 ∧ Aside0 (spec_MoveOf.l0 kq a1 a2 a3 x9_1 a0_0 l0_1 l0_2 = some r) ∧ Aside0 (kq ≤ k) ∧ Aside0 (w'.heap[gb203]? = some (.cells #[.int .i64 a0_0, (.slice A0_1 l0_1.length c0_1), (.slice A0_2 l0_2.length c0_2)] 29 (0, 0))) ∧ Aside0 (Below w.heap.size w w'))
 case atStart => exact ⟨(0), zF, H', ⟨Nat.le_refl _⟩, ⟨zK BK203⟩, ⟨zB HB⟩⟩
 case round =>
  clear H'
  try clear p2
  try clear c4
  obtain ⟨x9_1, rfl, HA, HK1, BK203, HB⟩ := hrel
  cases gk with
  | zero => exact absurd HA.out (by simp [spec_MoveOf.l0])
  | succ k1 =>
   have H := HA.out
   clear HA
   simp only [spec_MoveOf.l0] at H
   by_cases c6 : x9_1 < (l0_2.length : Int)
   ·rw [if_pos c6] at H
    have c6b0 : decide (x9_1 < (l0_2.length : Int)) = true := decide_eq_true c6
    clear c6
    obtain ⟨c7, H⟩ := ifS H
    have c7b0 : decide (0 ≤ x9_1) = true := decide_eq_true c7
    clear c7
    by_cases c8 : ((rd_T54 l0_2 x9_1).f0) = a1
    ·rw [if_pos c8] at H
     have c8b0 : (((rd_T54 l0_2 x9_1).f0) == a1) = true := beq_iff_eq.mpr c8
     have c8b1 : (((rd_T54 l0_2 x9_1).f0) != a1) = false := bne_eq_false_iff_eq.mpr c8
     clear c8
     by_cases c9 : (((rd_T54 l0_2 x9_1).f1) == a2) = true
     ·rw [if_pos c9] at H
      have c9b0 : (((rd_T54 l0_2 x9_1).f1) == a2) = true := c9
      (try (have c9b1 : decide (((rd_T54 l0_2 x9_1).f1) = a2) = true := by simpa using c9))
      (try (have c9b2 : (((rd_T54 l0_2 x9_1).f1) == a2) = true := by simpa using c9))
      clear c9
      by_cases c10 : ((rd_T54 l0_2 x9_1).f2) = a3
      ·rw [if_pos c10] at H
       have c10b0 : (((rd_T54 l0_2 x9_1).f2) == a3) = true := beq_iff_eq.mpr c10
       have c10b1 : (((rd_T54 l0_2 x9_1).f2) != a3) = false := bne_eq_false_iff_eq.mpr c10
       clear c10
       obtain rfl := Option.some.inj H
       have hcz11_0 := bc0 BK203
       have hcz11_1 := bc1 BK203
       have hcz11_2 := bc2 BK203
       have hfz11_0 := bf BK203 0
       have hfz11_1 := bf BK203 1
       have hfz11_2 := bf BK203 2
       have p204 : 0 ≤ (x9_1 : Int) := zD
       have q204 : x9_1 < (l0_2.length : Int) := zD
       obtain ⟨ad204, e204, hx204_0, hx204_1, hx204_2, hx204_3⟩ := at_T54 HR0_2.out x9_1 p204 q204
       cases e204
       replace hx204_0 := hL HB hx204_0
       replace hx204_1 := hL HB hx204_1
       replace hx204_2 := hL HB hx204_2
       replace hx204_3 := hL HB hx204_3
       replace p204 := eq_true p204
       replace q204 := eq_true q204
       go_wp2_with (first | ((with_reducible refine gate_dst (N := 10) rfl ?_); refine box_event ?hg (N := 10) ?hd (cs := #[.int .i64 0, .bool false, .int .i64 0, .int .i64 0]) (t := 54) ?hr ?_; (case hd => rfl); (case hg => rfl); (case hr => first | (go_simp; done) | (go_simp; rfl)); intro gb205 hg w12 hbox hb; have BK205 := Aside0.mk (hbox); have GW205 := gS HB hg; have GE205 := gS HB hg; replace HB := bS HB hb; have NB203_205 := nL BK203 hg; have NB205_203 := nR BK203 hg; replace BK203 := kB BK203 hb; clear hb hbox hg; have hnb13 := NB205_203.out; have hnc13 := NB203_205.out; have hcz14_0 := bc0 BK205; have hcz14_1 := bc1 BK205; have hcz14_2 := bc2 BK205; have hcz14_3 := bc3 BK205; have hfz14_0 := bf BK205 0; have hfz14_1 := bf BK205 1; have hfz14_2 := bf BK205 2; have hfz14_3 := bf BK205 3))
       go_ret
       exact ⟨zE, zB HB⟩
      ·rw [if_neg c10] at H
       have c10b0 : (((rd_T54 l0_2 x9_1).f2) == a3) = false := beq_eq_false_iff_ne.mpr c10
       have c10b1 : (((rd_T54 l0_2 x9_1).f2) != a3) = true := bne_iff_ne.mpr c10
       have H' := Aside0.mk H
       clear H
       have hcz15_0 := bc0 BK203
       have hcz15_1 := bc1 BK203
       have hcz15_2 := bc2 BK203
       have hfz15_0 := bf BK203 0
       have hfz15_1 := bf BK203 1
       have hfz15_2 := bf BK203 2
       have p204 : 0 ≤ (x9_1 : Int) := zD
       have q204 : x9_1 < (l0_2.length : Int) := zD
       obtain ⟨ad204, e204, hx204_0, hx204_1, hx204_2, hx204_3⟩ := at_T54 HR0_2.out x9_1 p204 q204
       cases e204
       replace hx204_0 := hL HB hx204_0
       replace hx204_1 := hL HB hx204_1
       replace hx204_2 := hL HB hx204_2
       replace hx204_3 := hL HB hx204_3
       replace p204 := eq_true p204
       replace q204 := eq_true q204
       go_wp2_with (first | ((with_reducible refine gate_dst (N := 10) rfl ?_); refine box_event ?hg (N := 10) ?hd (cs := #[.int .i64 0, .bool false, .int .i64 0, .int .i64 0]) (t := 54) ?hr ?_; (case hd => rfl); (case hg => rfl); (case hr => first | (go_simp; done) | (go_simp; rfl)); intro gb205 hg w16 hbox hb; have BK205 := Aside0.mk (hbox); have GW205 := gS HB hg; have GE205 := gS HB hg; replace HB := bS HB hb; have NB203_205 := nL BK203 hg; have NB205_203 := nR BK203 hg; replace BK203 := kB BK203 hb; clear hb hbox hg; have hnb17 := NB205_203.out; have hnc17 := NB203_205.out; have hcz18_0 := bc0 BK205; have hcz18_1 := bc1 BK205; have hcz18_2 := bc2 BK205; have hcz18_3 := bc3 BK205; have hfz18_0 := bf BK205 0; have hfz18_1 := bf BK205 1; have hfz18_2 := bf BK205 2; have hfz18_3 := bf BK205 3))
       go_roundg k1
       case measure => have := HK1.out; omega
       case rel => exact ⟨(wrap64 (x9_1 + 1)), zF, H', ⟨by have := HK1.out; omega⟩, ⟨by (with_reducible repeat (first | refine blk_drewN ?_ _ | refine blk_drew ?_ | refine blk_alloc ?_ _)); refine blk_far ?_ NB203_205.out _; (with_reducible repeat (first | refine blk_drewN ?_ _ | refine blk_drew ?_ | refine blk_alloc ?_ _)); refine blk_far ?_ NB203_205.out _; (with_reducible repeat (first | refine blk_drewN ?_ _ | refine blk_drew ?_ | refine blk_alloc ?_ _)); refine blk_far ?_ NB203_205.out _; (with_reducible repeat (first | refine blk_drewN ?_ _ | refine blk_drew ?_ | refine blk_alloc ?_ _)); refine blk_far ?_ NB203_205.out _; (with_reducible repeat (first | refine blk_drewN ?_ _ | refine blk_drew ?_ | refine blk_alloc ?_ _)); exact BK203.out⟩, ⟨zB HB⟩⟩
     ·rw [if_neg c9] at H
      have c9b0 : (((rd_T54 l0_2 x9_1).f1) == a2) = false := by simpa using c9
      (try (have c9b1 : decide (((rd_T54 l0_2 x9_1).f1) = a2) = false := by simpa using c9))
      (try (have c9b2 : (((rd_T54 l0_2 x9_1).f1) == a2) = false := by simpa using c9))
      (try (have c9b3 : ¬ (((rd_T54 l0_2 x9_1).f1) = a2) := by simpa using c9))
      clear c9
      have H' := Aside0.mk H
      clear H
      have hcz19_0 := bc0 BK203
      have hcz19_1 := bc1 BK203
      have hcz19_2 := bc2 BK203
      have hfz19_0 := bf BK203 0
      have hfz19_1 := bf BK203 1
      have hfz19_2 := bf BK203 2
      have p204 : 0 ≤ (x9_1 : Int) := zD
      have q204 : x9_1 < (l0_2.length : Int) := zD
      obtain ⟨ad204, e204, hx204_0, hx204_1, hx204_2, hx204_3⟩ := at_T54 HR0_2.out x9_1 p204 q204
      cases e204
      replace hx204_0 := hL HB hx204_0
      replace hx204_1 := hL HB hx204_1
      replace hx204_2 := hL HB hx204_2
      replace hx204_3 := hL HB hx204_3
      replace p204 := eq_true p204
      replace q204 := eq_true q204
      go_wp2_with (first | ((with_reducible refine gate_dst (N := 10) rfl ?_); refine box_event ?hg (N := 10) ?hd (cs := #[.int .i64 0, .bool false, .int .i64 0, .int .i64 0]) (t := 54) ?hr ?_; (case hd => rfl); (case hg => rfl); (case hr => first | (go_simp; done) | (go_simp; rfl)); intro gb205 hg w20 hbox hb; have BK205 := Aside0.mk (hbox); have GW205 := gS HB hg; have GE205 := gS HB hg; replace HB := bS HB hb; have NB203_205 := nL BK203 hg; have NB205_203 := nR BK203 hg; replace BK203 := kB BK203 hb; clear hb hbox hg; have hnb21 := NB205_203.out; have hnc21 := NB203_205.out; have hcz22_0 := bc0 BK205; have hcz22_1 := bc1 BK205; have hcz22_2 := bc2 BK205; have hcz22_3 := bc3 BK205; have hfz22_0 := bf BK205 0; have hfz22_1 := bf BK205 1; have hfz22_2 := bf BK205 2; have hfz22_3 := bf BK205 3))
      go_roundg k1
      case measure => have := HK1.out; omega
      case rel => exact ⟨(wrap64 (x9_1 + 1)), zF, H', ⟨by have := HK1.out; omega⟩, ⟨by (with_reducible repeat (first | refine blk_drewN ?_ _ | refine blk_drew ?_ | refine blk_alloc ?_ _)); refine blk_far ?_ NB203_205.out _; (with_reducible repeat (first | refine blk_drewN ?_ _ | refine blk_drew ?_ | refine blk_alloc ?_ _)); refine blk_far ?_ NB203_205.out _; (with_reducible repeat (first | refine blk_drewN ?_ _ | refine blk_drew ?_ | refine blk_alloc ?_ _)); refine blk_far ?_ NB203_205.out _; (with_reducible repeat (first | refine blk_drewN ?_ _ | refine blk_drew ?_ | refine blk_alloc ?_ _)); refine blk_far ?_ NB203_205.out _; (with_reducible repeat (first | refine blk_drewN ?_ _ | refine blk_drew ?_ | refine blk_alloc ?_ _)); exact BK203.out⟩, ⟨zB HB⟩⟩
    ·rw [if_neg c8] at H
     have c8b0 : (((rd_T54 l0_2 x9_1).f0) == a1) = false := beq_eq_false_iff_ne.mpr c8
     have c8b1 : (((rd_T54 l0_2 x9_1).f0) != a1) = true := bne_iff_ne.mpr c8
     have H' := Aside0.mk H
     clear H
     have hcz23_0 := bc0 BK203
     have hcz23_1 := bc1 BK203
     have hcz23_2 := bc2 BK203
     have hfz23_0 := bf BK203 0
     have hfz23_1 := bf BK203 1
     have hfz23_2 := bf BK203 2
     have p204 : 0 ≤ (x9_1 : Int) := zD
     have q204 : x9_1 < (l0_2.length : Int) := zD
     obtain ⟨ad204, e204, hx204_0, hx204_1, hx204_2, hx204_3⟩ := at_T54 HR0_2.out x9_1 p204 q204
     cases e204
     replace hx204_0 := hL HB hx204_0
     replace hx204_1 := hL HB hx204_1
     replace hx204_2 := hL HB hx204_2
     replace hx204_3 := hL HB hx204_3
     replace p204 := eq_true p204
     replace q204 := eq_true q204
     go_wp2_with (first | ((with_reducible refine gate_dst (N := 10) rfl ?_); refine box_event ?hg (N := 10) ?hd (cs := #[.int .i64 0, .bool false, .int .i64 0, .int .i64 0]) (t := 54) ?hr ?_; (case hd => rfl); (case hg => rfl); (case hr => first | (go_simp; done) | (go_simp; rfl)); intro gb205 hg w24 hbox hb; have BK205 := Aside0.mk (hbox); have GW205 := gS HB hg; have GE205 := gS HB hg; replace HB := bS HB hb; have NB203_205 := nL BK203 hg; have NB205_203 := nR BK203 hg; replace BK203 := kB BK203 hb; clear hb hbox hg; have hnb25 := NB205_203.out; have hnc25 := NB203_205.out; have hcz26_0 := bc0 BK205; have hcz26_1 := bc1 BK205; have hcz26_2 := bc2 BK205; have hcz26_3 := bc3 BK205; have hfz26_0 := bf BK205 0; have hfz26_1 := bf BK205 1; have hfz26_2 := bf BK205 2; have hfz26_3 := bf BK205 3))
     go_roundg k1
     case measure => have := HK1.out; omega
     case rel => exact ⟨(wrap64 (x9_1 + 1)), zF, H', ⟨by have := HK1.out; omega⟩, ⟨by (with_reducible repeat (first | refine blk_drewN ?_ _ | refine blk_drew ?_ | refine blk_alloc ?_ _)); refine blk_far ?_ NB203_205.out _; (with_reducible repeat (first | refine blk_drewN ?_ _ | refine blk_drew ?_ | refine blk_alloc ?_ _)); refine blk_far ?_ NB203_205.out _; (with_reducible repeat (first | refine blk_drewN ?_ _ | refine blk_drew ?_ | refine blk_alloc ?_ _)); refine blk_far ?_ NB203_205.out _; (with_reducible repeat (first | refine blk_drewN ?_ _ | refine blk_drew ?_ | refine blk_alloc ?_ _)); refine blk_far ?_ NB203_205.out _; (with_reducible repeat (first | refine blk_drewN ?_ _ | refine blk_drew ?_ | refine blk_alloc ?_ _)); exact BK203.out⟩, ⟨zB HB⟩⟩
   ·rw [if_neg c6] at H
    have c6b0 : decide (x9_1 < (l0_2.length : Int)) = false := decide_eq_false c6
    clear c6
    obtain rfl := Option.some.inj H
    have hcz27_0 := bc0 BK203
    have hcz27_1 := bc1 BK203
    have hcz27_2 := bc2 BK203
    have hfz27_0 := bf BK203 0
    have hfz27_1 := bf BK203 1
    have hfz27_2 := bf BK203 2
    go_wp2
    go_ret
    exact ⟨zE, zB HB⟩

end Go.Proofs.Ytjlaogjikkckkaa.PFnExactNextPairs
