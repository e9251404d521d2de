-- WRITTEN by pp.py, this session's own wrapper around the print; not trusted: Lean checks it
import Derived.Test.YtmenijbpglknbaaPFnExactPairsOfx0
import Derived.Test.YtmenijbpglknbaaPFnExactPairsOfx1
namespace Go.Proofs.Ytmenijbpglknbaa.PFnExactPairsOf
open Go.RowKit Go.Proofs.Ytmenijbpglknbaa.Hw Go.Proofs.YtmenijbpglknbaaW.PrintWords Go.Proofs.YtmenijbpglknbaaW.PrintLast Go.Proofs.YtmenijbpglknbaaW.PrintMore
attribute [local go_sem] max2_int min2_int max_two min_two max_three min_three max_four min_four   -- for this text's walks alone
set_option linter.unusedVariables false
set_option linter.unusedSimpArgs false
set_option linter.unusedSectionVars false

/-! ### spec_MovesFrom: function 49 -/
def spec_MovesFrom.l0 : Nat → Int → Bool → List Int → Int → Int → List Bool → List (S64) → Option (List Int)
 | 0, _, _, _, _, _, _, _ => none
 | k + 1, x1, x2, x7, x8, x147000, x147001, x147002 => if x8 < (x147002.length : Int) then (if 0 ≤ x8 then (if ((rd_T64 x147002 x8).f0) = x1 then (if (((rd_T64 x147002 x8).f1) == x2) = true then ((spec_l4Put.f k x7 ((rd_T64 x147002 x8).f2)).bind fun t153 => (spec_MovesFrom.l0 k x1 x2 t153 (wrap64 (x8 + 1)) x147000 x147001 x147002)) else (spec_MovesFrom.l0 k x1 x2 x7 (wrap64 (x8 + 1)) x147000 x147001 x147002)) else (spec_MovesFrom.l0 k x1 x2 x7 (wrap64 (x8 + 1)) x147000 x147001 x147002)) else (none)) else (some x7)
def spec_MovesFrom.f (k : Nat) (a0_0 : Int) (l0_1 : List Bool) (l0_2 : List (S64)) (a1 : Int) (a2 : Bool) : Option (List Int) := spec_MovesFrom.l0 k a1 a2 (([] : List Int)) 0 a0_0 l0_1 l0_2
theorem spec_MovesFrom.mono_l : ∀ k, (∀ y0 y1 y2 y3 y4 y5 y6, LeO (spec_MovesFrom.l0 k y0 y1 y2 y3 y4 y5 y6) (spec_MovesFrom.l0 (k + 1) y0 y1 y2 y3 y4 y5 y6))
 | 0 => fun _ _ _ _ _ _ _ r h => by simp [spec_MovesFrom.l0] at h
 | k + 1 => by
  have ih0 := spec_MovesFrom.mono_l k
  ·intro y0 y1 y2 y3 y4 y5 y6
   unfold spec_MovesFrom.l0
   repeat' first
   | (with_reducible exact ih0 _ _ _ _ _ _ _)
   | (with_reducible exact spec_l4Put.mono _ _ _)
   | (with_reducible exact LeO.refl _)
   | (with_reducible exact LeO.none _)
   | (with_reducible refine LeO.ite ?_ ?_)
   | (with_reducible refine LeO.bind ?_ (fun _ => ?_))
   | exact ih0 _ _ _ _ _ _ _
   | exact spec_l4Put.mono _ _ _
   | exact LeO.none _
   | refine LeO.ite ?_ ?_
   | refine LeO.bind ?_ (fun _ => ?_)
theorem spec_MovesFrom.mono : ∀ a0 a1 a2 a3 a4 k, LeO (spec_MovesFrom.f k a0 a1 a2 a3 a4) (spec_MovesFrom.f (k + 1) a0 a1 a2 a3 a4) := by
 intro a0 a1 a2 a3 a4 k
 have ih0 := spec_MovesFrom.mono_l k
 unfold spec_MovesFrom.f
 repeat' first
   | (with_reducible exact ih0 _ _ _ _ _ _ _)
   | (with_reducible exact spec_l4Put.mono _ _ _)
   | (with_reducible exact LeO.refl _)
   | (with_reducible exact LeO.none _)
   | (with_reducible refine LeO.ite ?_ ?_)
   | (with_reducible refine LeO.bind ?_ (fun _ => ?_))
   | exact ih0 _ _ _ _ _ _ _
   | exact spec_l4Put.mono _ _ _
   | exact LeO.none _
   | refine LeO.ite ?_ ?_
   | refine LeO.bind ?_ (fun _ => ?_)
set_option maxHeartbeats 8000000 in
set_option maxRecDepth 100000 in
theorem spec_MovesFrom.calls (k : Nat) (a0_0 : Int) (A0_1 : Option Addr) (c0_1 : Nat) (l0_1 : List Bool) (A0_2 : Option Addr) (c0_2 : Nat) (l0_2 : List (S64)) (a1 : Int) (a2 : Bool) (r : List Int) (w : World) (hr0_1 : Kd.C Kd.bool w A0_1 l0_1.length l0_1) (hc0_1 : l0_1.length ≤ c0_1) (hr0_2 : Kd.C k64 w A0_2 l0_2.length l0_2) (hc0_2 : l0_2.length ≤ c0_2) (h : spec_MovesFrom.f k a0_0 l0_1 l0_2 a1 a2 = some r) :
  Calls Try.prog 49 #[.agg #[.int .i64 a0_0, .slice A0_1 l0_1.length c0_1, .slice A0_2 l0_2.length c0_2], .int .i64 a1, .bool a2] w fun e w' => ∃ v0_ : Value, e = .returned (v0_) ∧ Kd.R (Kd.int .i64) 3 w' w.heap.size (fun _ => True) v0_ r ∧ Below w.heap.size w w' := by
 have hu31 := Try.underlying31
 have HR0_1 := Aside0.mk hr0_1
 have HC0_1 := Aside0.mk hc0_1
 clear hr0_1 hc0_1
 have HR0_2 := Aside0.mk hr0_2
 have HC0_2 := Aside0.mk hc0_2
 clear hr0_2 hc0_2
 have HB := Aside0.mk (Below.refl w.heap.size w)
 have H : (spec_MovesFrom.l0 k a1 a2 (([] : List Int)) 0 a0_0 l0_1 l0_2) = some r := h
 clear h
 obtain ⟨y147, hy147⟩ : ∃ y_ : List Int, y_ = (([] : List Int)) := ⟨_, rfl⟩
 replace H : (spec_MovesFrom.l0 k a1 a2 y147 0 a0_0 l0_1 l0_2) = some r := by first | (rw [hy147]; with_reducible exact H) | (have H2_ := (Option.bind_some _ _).symm.trans H; rw [hy147]; with_reducible exact H2_) | (have H2_ := (Option.bind_some _ _).symm.trans H; with_reducible exact H2_) | with_reducible exact H | (rw [hy147]; exact H) | exact H
 have Ny147 := Aside0.mk hy147
 clear hy147
 have H' := Aside0.mk H
 clear H
 go_enter Try.func49, Try.ntmps49
 go_wp2_with (first | ((with_reducible refine gate_dst (N := 3) rfl ?_); refine box_event ?hg (N := 3) ?hd (cs := #[.int .i64 a0_0, .slice A0_1 l0_1.length c0_1, .slice A0_2 l0_2.length c0_2]) (t := 31) ?hr ?_; (case hd => rfl); (case hg => rfl); (case hr => first | (go_simp; done) | (go_simp; rfl)); intro gb146 hg w4 hbox hb; have BK146 := Aside0.mk (hbox); have GW146 := gS HB hg; have GE146 := gS HB hg; replace HB := bS HB hb; clear hb hbox hg) | ((with_reducible refine gate_dst (N := 9) rfl ?_); refine Kd.R_lit (Kd.int .i64) _ 3 ?hg (N := 9) ?hd (xs := ([] : List Int)) (inner := []) (ok := fun _ => True) (okp := fun _ => True) ?hr ?hp (fun _ hk => hk) trivial (Below.refl _ _) (Nat.le_refl _) (by simp) ?_; (case hd => rfl); (case hg => rfl); (case hr => first | (go_simp; done) | (go_simp; rfl)); (case hp => exact (Reps.none _ _)); intro v148 w5 ho6 hb hg_ hnew_; clear hg_ hnew_; (first | rw [← Ny147.out] at ho6 | (simp only [Int.reduceToNat] at ho6; rw [← Ny147.out] at ho6)); have HO149 := Aside0.mk (Kd.R_lower ho6 (below_size (zB HB))); replace BK146 := kB BK146 hb; replace HB := bS HB hb; clear hb ho6))
 go_loopg [7, 8] k (fun kq v7 v8 w' => ∃ (x7_1 : List Int) (x8_1 : Int), v8 = .int .i64 x8_1 ∧ Aside0 (spec_MovesFrom.l0 kq a1 a2 x7_1 x8_1 a0_0 l0_1 l0_2 = some r) ∧ Aside0 (kq ≤ k) ∧ Aside0 (Kd.R (Kd.int .i64) 3 w' w.heap.size (fun _ => True) v7 x7_1) ∧ Aside0 (w'.heap[gb146]? = some (.cells #[.int .i64 a0_0, (.slice A0_1 l0_1.length c0_1), (.slice A0_2 l0_2.length c0_2)] 31 (0, 0))) ∧ Aside0 (Below w.heap.size w w'))
 case atStart => exact ⟨(y147), (0), zF, H', ⟨Nat.le_refl _⟩, ⟨zR HO149⟩, ⟨zK BK146⟩, ⟨zB HB⟩⟩
 case round =>
  clear H'
  try clear p2
  try clear c4
  obtain ⟨x7_1, x8_1, rfl, HA, HK1, HO_7, BK146, HB⟩ := hrel
  cases gk with
  | zero => exact absurd HA.out (by simp [spec_MovesFrom.l0])
  | succ k1 =>
   have H := HA.out
   clear HA
   simp only [spec_MovesFrom.l0] at H
   by_cases c7 : x8_1 < (l0_2.length : Int)
   ·rw [if_pos c7] at H
    have c7b0 : decide (x8_1 < (l0_2.length : Int)) = true := decide_eq_true c7
    clear c7
    obtain ⟨c8, H⟩ := ifS H
    have c8b0 : decide (0 ≤ x8_1) = true := decide_eq_true c8
    clear c8
    by_cases c9 : ((rd_T64 l0_2 x8_1).f0) = a1
    ·rw [if_pos c9] at H
     have c9b0 : (((rd_T64 l0_2 x8_1).f0) == a1) = true := beq_iff_eq.mpr c9
     have c9b1 : (((rd_T64 l0_2 x8_1).f0) != a1) = false := bne_eq_false_iff_eq.mpr c9
     clear c9
     by_cases c10 : (((rd_T64 l0_2 x8_1).f1) == a2) = true
     ·rw [if_pos c10] at H
      have c10b0 : (((rd_T64 l0_2 x8_1).f1) == a2) = true := c10
      (try (have c10b1 : decide (((rd_T64 l0_2 x8_1).f1) = a2) = true := by simpa using c10))
      (try (have c10b2 : (((rd_T64 l0_2 x8_1).f1) == a2) = true := by simpa using c10))
      clear c10
      obtain ⟨t153, A11, H⟩ := bindS H
      have H' := Aside0.mk H
      clear H
      have hcz12_0 := bc0 BK146
      have hcz12_1 := bc1 BK146
      have hcz12_2 := bc2 BK146
      have hfz12_0 := bf BK146 0
      have hfz12_1 := bf BK146 1
      have hfz12_2 := bf BK146 2
      have p150 : 0 ≤ (x8_1 : Int) := zD
      have q150 : x8_1 < (l0_2.length : Int) := zD
      obtain ⟨ad150, e150, hx150_0, hx150_1, hx150_2, hx150_3⟩ := at_T64 HR0_2.out x8_1 p150 q150
      cases e150
      replace hx150_0 := hL HB hx150_0
      replace hx150_1 := hL HB hx150_1
      replace hx150_2 := hL HB hx150_2
      replace hx150_3 := hL HB hx150_3
      replace p150 := eq_true p150
      replace q150 := eq_true q150
      have p151 : 0 ≤ (x8_1 : Int) := zD
      have q151 : x8_1 < (l0_2.length : Int) := zD
      obtain ⟨ad151, e151, hx151_0, hx151_1, hx151_2, hx151_3⟩ := at_T64 HR0_2.out x8_1 p151 q151
      obtain rfl : ad150 = ad151 := (by injection e151)
      replace hx151_0 := hL HB hx151_0
      replace hx151_1 := hL HB hx151_1
      replace hx151_2 := hL HB hx151_2
      replace hx151_3 := hL HB hx151_3
      replace p151 := eq_true p151
      replace q151 := eq_true q151
      have p152 : 0 ≤ (x8_1 : Int) := zD
      have q152 : x8_1 < (l0_2.length : Int) := zD
      obtain ⟨ad152, e152, hx152_0, hx152_1, hx152_2, hx152_3⟩ := at_T64 HR0_2.out x8_1 p152 q152
      obtain rfl : ad150 = ad152 := (by injection e152)
      replace hx152_0 := hL HB hx152_0
      replace hx152_1 := hL HB hx152_1
      replace hx152_2 := hL HB hx152_2
      replace hx152_3 := hL HB hx152_3
      replace p152 := eq_true p152
      replace q152 := eq_true q152
      obtain ⟨Ao13, co13, eo13⟩ := Kd.R_slice HO_7.out
      subst eo13
      go_wp2_with (first | ((with_reducible refine gate_callee (f := 67) rfl ?_); refine goesL_ (some 42) rfl rfl Try.func67 (by kernel_rfl) rfl #[.slice Ao13 x7_1.length co13, .int .i64 ((rd_T64 l0_2 x8_1).f2)] rfl zG ?_; (with_reducible refine (spec_l4Put.calls k1 _ _ x7_1 ((rd_T64 l0_2 x8_1).f2) t153 _ ?side1 ?side2 A11.out).mono ?_); (case side1 => repeat (first | exact (Kd.R_reads' HO_7.out).2.2 | (with_reducible refine Kd.C_alloc ?_ _) | (with_reducible refine Kd.C_drewN ?_ _) | (with_reducible refine Kd.C_drew ?_))); (case side2 => exact (Kd.R_reads' HO_7.out).2.1); rintro e w14 ⟨v154, rfl, ho0, hb⟩; refine ⟨_, rfl, ?_⟩; have HO155 := Aside0.mk (Kd.R_lower (Kd.R_new' ho0 (Kd.R_lt (zR HO_7))) (below_size (zB HB))); replace HO_7 := Aside0.mk (Kd.R_elder' (zR HO_7) (Kd.R_base ho0) hb); replace BK146 := kB BK146 hb; replace HB := bS HB hb; (try clear hb); (try clear ho0)))
      go_roundg k1
      case measure => have := HK1.out; omega
      case rel => exact ⟨(t153), (wrap64 (x8_1 + 1)), zF, H', ⟨by have := HK1.out; omega⟩, ⟨by (with_reducible repeat (first | apply Kd.R_alloc | apply Kd.R_drewN | apply Kd.R_drew)); exact Kd.R_mono HO155.out (fun _ hk => trivial)⟩, ⟨zK BK146⟩, ⟨zB HB⟩⟩
     ·rw [if_neg c10] at H
      have c10b0 : (((rd_T64 l0_2 x8_1).f1) == a2) = false := by simpa using c10
      (try (have c10b1 : decide (((rd_T64 l0_2 x8_1).f1) = a2) = false := by simpa using c10))
      (try (have c10b2 : (((rd_T64 l0_2 x8_1).f1) == a2) = false := by simpa using c10))
      (try (have c10b3 : ¬ (((rd_T64 l0_2 x8_1).f1) = a2) := by simpa using c10))
      clear c10
      have H' := Aside0.mk H
      clear H
      have hcz15_0 := bc0 BK146
      have hcz15_1 := bc1 BK146
      have hcz15_2 := bc2 BK146
      have hfz15_0 := bf BK146 0
      have hfz15_1 := bf BK146 1
      have hfz15_2 := bf BK146 2
      have p150 : 0 ≤ (x8_1 : Int) := zD
      have q150 : x8_1 < (l0_2.length : Int) := zD
      obtain ⟨ad150, e150, hx150_0, hx150_1, hx150_2, hx150_3⟩ := at_T64 HR0_2.out x8_1 p150 q150
      cases e150
      replace hx150_0 := hL HB hx150_0
      replace hx150_1 := hL HB hx150_1
      replace hx150_2 := hL HB hx150_2
      replace hx150_3 := hL HB hx150_3
      replace p150 := eq_true p150
      replace q150 := eq_true q150
      have p151 : 0 ≤ (x8_1 : Int) := zD
      have q151 : x8_1 < (l0_2.length : Int) := zD
      obtain ⟨ad151, e151, hx151_0, hx151_1, hx151_2, hx151_3⟩ := at_T64 HR0_2.out x8_1 p151 q151
      obtain rfl : ad150 = ad151 := (by injection e151)
      replace hx151_0 := hL HB hx151_0
      replace hx151_1 := hL HB hx151_1
      replace hx151_2 := hL HB hx151_2
      replace hx151_3 := hL HB hx151_3
      replace p151 := eq_true p151
      replace q151 := eq_true q151
      go_wp2
      go_roundg k1
      case measure => have := HK1.out; omega
      case rel => exact ⟨(x7_1), (wrap64 (x8_1 + 1)), zF, H', ⟨by have := HK1.out; omega⟩, ⟨zR HO_7⟩, ⟨zK BK146⟩, ⟨zB HB⟩⟩
    ·rw [if_neg c9] at H
     have c9b0 : (((rd_T64 l0_2 x8_1).f0) == a1) = false := beq_eq_false_iff_ne.mpr c9
     have c9b1 : (((rd_T64 l0_2 x8_1).f0) != a1) = true := bne_iff_ne.mpr c9
     have H' := Aside0.mk H
     clear H
     have hcz16_0 := bc0 BK146
     have hcz16_1 := bc1 BK146
     have hcz16_2 := bc2 BK146
     have hfz16_0 := bf BK146 0
     have hfz16_1 := bf BK146 1
     have hfz16_2 := bf BK146 2
     have p150 : 0 ≤ (x8_1 : Int) := zD
     have q150 : x8_1 < (l0_2.length : Int) := zD
     obtain ⟨ad150, e150, hx150_0, hx150_1, hx150_2, hx150_3⟩ := at_T64 HR0_2.out x8_1 p150 q150
     cases e150
     replace hx150_0 := hL HB hx150_0
     replace hx150_1 := hL HB hx150_1
     replace hx150_2 := hL HB hx150_2
     replace hx150_3 := hL HB hx150_3
     replace p150 := eq_true p150
     replace q150 := eq_true q150
     go_wp2
     go_roundg k1
     case measure => have := HK1.out; omega
     case rel => exact ⟨(x7_1), (wrap64 (x8_1 + 1)), zF, H', ⟨by have := HK1.out; omega⟩, ⟨zR HO_7⟩, ⟨zK BK146⟩, ⟨zB HB⟩⟩
   ·rw [if_neg c7] at H
    have c7b0 : decide (x8_1 < (l0_2.length : Int)) = false := decide_eq_false c7
    clear c7
    obtain rfl := Option.some.inj H
    have hcz17_0 := bc0 BK146
    have hcz17_1 := bc1 BK146
    have hcz17_2 := bc2 BK146
    have hfz17_0 := bf BK146 0
    have hfz17_1 := bf BK146 1
    have hfz17_2 := bf BK146 2
    go_wp2
    go_ret
    exact ⟨_, zE, by (with_reducible repeat (first | apply Kd.R_alloc | apply Kd.R_drewN | apply Kd.R_drew)); exact HO_7.out, zB HB⟩

/-! ### spec_MoveOf: function 50 -/
def spec_MoveOf.l0 : Nat → Int → Bool → Int → Int → Int → List Bool → List (S64) → Option (Int)
 | 0, _, _, _, _, _, _, _ => none
 | k + 1, x1, x2, x3, x9, x157000, x157001, x157002 => if x9 < (x157002.length : Int) then (if 0 ≤ x9 then (if ((rd_T64 x157002 x9).f0) = x1 then (if (((rd_T64 x157002 x9).f1) == x2) = true then (if ((rd_T64 x157002 x9).f2) = x3 then (some x9) else (spec_MoveOf.l0 k x1 x2 x3 (wrap64 (x9 + 1)) x157000 x157001 x157002)) else (spec_MoveOf.l0 k x1 x2 x3 (wrap64 (x9 + 1)) x157000 x157001 x157002)) else (spec_MoveOf.l0 k x1 x2 x3 (wrap64 (x9 + 1)) x157000 x157001 x157002)) else (none)) else (some (-1))
def spec_MoveOf.f (k : Nat) (a0_0 : Int) (l0_1 : List Bool) (l0_2 : List (S64)) (a1 : Int) (a2 : Bool) (a3 : Int) : Option (Int) := spec_MoveOf.l0 k a1 a2 a3 0 a0_0 l0_1 l0_2
theorem spec_MoveOf.mono_l : ∀ k, (∀ y0 y1 y2 y3 y4 y5 y6, LeO (spec_MoveOf.l0 k y0 y1 y2 y3 y4 y5 y6) (spec_MoveOf.l0 (k + 1) y0 y1 y2 y3 y4 y5 y6))
 | 0 => fun _ _ _ _ _ _ _ r h => by simp [spec_MoveOf.l0] at h
 | k + 1 => by
  have ih0 := spec_MoveOf.mono_l k
  ·intro y0 y1 y2 y3 y4 y5 y6
   unfold spec_MoveOf.l0
   repeat' first
   | (with_reducible exact ih0 _ _ _ _ _ _ _)
   | (with_reducible exact LeO.refl _)
   | (with_reducible exact LeO.none _)
   | (with_reducible refine LeO.ite ?_ ?_)
   | (with_reducible refine LeO.bind ?_ (fun _ => ?_))
   | exact ih0 _ _ _ _ _ _ _
   | exact LeO.none _
   | refine LeO.ite ?_ ?_
   | refine LeO.bind ?_ (fun _ => ?_)
theorem spec_MoveOf.mono : ∀ a0 a1 a2 a3 a4 a5 k, LeO (spec_MoveOf.f k a0 a1 a2 a3 a4 a5) (spec_MoveOf.f (k + 1) a0 a1 a2 a3 a4 a5) := by
 intro a0 a1 a2 a3 a4 a5 k
 have ih0 := spec_MoveOf.mono_l k
 unfold spec_MoveOf.f
 repeat' first
   | (with_reducible exact ih0 _ _ _ _ _ _ _)
   | (with_reducible exact LeO.refl _)
   | (with_reducible exact LeO.none _)
   | (with_reducible refine LeO.ite ?_ ?_)
   | (with_reducible refine LeO.bind ?_ (fun _ => ?_))
   | exact ih0 _ _ _ _ _ _ _
   | exact LeO.none _
   | refine LeO.ite ?_ ?_
   | refine LeO.bind ?_ (fun _ => ?_)
set_option maxHeartbeats 8000000 in
set_option maxRecDepth 100000 in
theorem spec_MoveOf.calls (k : Nat) (a0_0 : Int) (A0_1 : Option Addr) (c0_1 : Nat) (l0_1 : List Bool) (A0_2 : Option Addr) (c0_2 : Nat) (l0_2 : List (S64)) (a1 : Int) (a2 : Bool) (a3 : Int) (r : Int) (w : World) (hr0_1 : Kd.C Kd.bool w A0_1 l0_1.length l0_1) (hc0_1 : l0_1.length ≤ c0_1) (hr0_2 : Kd.C k64 w A0_2 l0_2.length l0_2) (hc0_2 : l0_2.length ≤ c0_2) (h : spec_MoveOf.f k a0_0 l0_1 l0_2 a1 a2 a3 = some r) :
  Calls Try.prog 50 #[.agg #[.int .i64 a0_0, .slice A0_1 l0_1.length c0_1, .slice A0_2 l0_2.length c0_2], .int .i64 a1, .bool a2, .int .i64 a3] w fun e w' => e = .returned (.int .i64 r) ∧ Below w.heap.size w w' := by
 have hu31 := Try.underlying31
 have hu64 := Try.underlying64
 have HR0_1 := Aside0.mk hr0_1
 have HC0_1 := Aside0.mk hc0_1
 clear hr0_1 hc0_1
 have HR0_2 := Aside0.mk hr0_2
 have HC0_2 := Aside0.mk hc0_2
 clear hr0_2 hc0_2
 have HB := Aside0.mk (Below.refl w.heap.size w)
 have H : (spec_MoveOf.l0 k a1 a2 a3 0 a0_0 l0_1 l0_2) = some r := h
 clear h
 have H' := Aside0.mk H
 clear H
 go_enter Try.func50, Try.ntmps50
 go_wp2_with (first | ((with_reducible refine gate_dst (N := 4) rfl ?_); refine box_event ?hg (N := 4) ?hd (cs := #[.int .i64 a0_0, .slice A0_1 l0_1.length c0_1, .slice A0_2 l0_2.length c0_2]) (t := 31) ?hr ?_; (case hd => rfl); (case hg => rfl); (case hr => first | (go_simp; done) | (go_simp; rfl)); intro gb156 hg w5 hbox hb; have BK156 := Aside0.mk (hbox); have GW156 := gS HB hg; have GE156 := gS HB hg; replace HB := bS HB hb; clear hb hbox hg))
 go_loopg [9] k (fun kq v9 w' => ∃ (x9_1 : Int), v9 = .int .i64 x9_1 ∧ Aside0 (spec_MoveOf.l0 kq a1 a2 a3 x9_1 a0_0 l0_1 l0_2 = some r) ∧ Aside0 (kq ≤ k) ∧ Aside0 (w'.heap[gb156]? = some (.cells #[.int .i64 a0_0, (.slice A0_1 l0_1.length c0_1), (.slice A0_2 l0_2.length c0_2)] 31 (0, 0))) ∧ Aside0 (Below w.heap.size w w'))
 case atStart => exact ⟨(0), zF, H', ⟨Nat.le_refl _⟩, ⟨zK BK156⟩, ⟨zB HB⟩⟩
 case round =>
  clear H'
  try clear p2
  try clear c5
  obtain ⟨x9_1, rfl, HA, HK1, BK156, HB⟩ := hrel
  cases gk with
  | zero => exact absurd HA.out (by simp [spec_MoveOf.l0])
  | succ k1 =>
   have H := HA.out
   clear HA
   simp only [spec_MoveOf.l0] at H
   by_cases c6 : x9_1 < (l0_2.length : Int)
   ·rw [if_pos c6] at H
    have c6b0 : decide (x9_1 < (l0_2.length : Int)) = true := decide_eq_true c6
    clear c6
    obtain ⟨c7, H⟩ := ifS H
    have c7b0 : decide (0 ≤ x9_1) = true := decide_eq_true c7
    clear c7
    by_cases c8 : ((rd_T64 l0_2 x9_1).f0) = a1
    ·rw [if_pos c8] at H
     have c8b0 : (((rd_T64 l0_2 x9_1).f0) == a1) = true := beq_iff_eq.mpr c8
     have c8b1 : (((rd_T64 l0_2 x9_1).f0) != a1) = false := bne_eq_false_iff_eq.mpr c8
     clear c8
     by_cases c9 : (((rd_T64 l0_2 x9_1).f1) == a2) = true
     ·rw [if_pos c9] at H
      have c9b0 : (((rd_T64 l0_2 x9_1).f1) == a2) = true := c9
      (try (have c9b1 : decide (((rd_T64 l0_2 x9_1).f1) = a2) = true := by simpa using c9))
      (try (have c9b2 : (((rd_T64 l0_2 x9_1).f1) == a2) = true := by simpa using c9))
      clear c9
      by_cases c10 : ((rd_T64 l0_2 x9_1).f2) = a3
      ·rw [if_pos c10] at H
       have c10b0 : (((rd_T64 l0_2 x9_1).f2) == a3) = true := beq_iff_eq.mpr c10
       have c10b1 : (((rd_T64 l0_2 x9_1).f2) != a3) = false := bne_eq_false_iff_eq.mpr c10
       clear c10
       obtain rfl := Option.some.inj H
       have hcz11_0 := bc0 BK156
       have hcz11_1 := bc1 BK156
       have hcz11_2 := bc2 BK156
       have hfz11_0 := bf BK156 0
       have hfz11_1 := bf BK156 1
       have hfz11_2 := bf BK156 2
       have p157 : 0 ≤ (x9_1 : Int) := zD
       have q157 : x9_1 < (l0_2.length : Int) := zD
       obtain ⟨ad157, e157, hx157_0, hx157_1, hx157_2, hx157_3⟩ := at_T64 HR0_2.out x9_1 p157 q157
       cases e157
       replace hx157_0 := hL HB hx157_0
       replace hx157_1 := hL HB hx157_1
       replace hx157_2 := hL HB hx157_2
       replace hx157_3 := hL HB hx157_3
       replace p157 := eq_true p157
       replace q157 := eq_true q157
       go_wp2_with (first | ((with_reducible refine gate_dst (N := 10) rfl ?_); refine box_event ?hg (N := 10) ?hd (cs := #[.int .i64 0, .bool false, .int .i64 0, .int .i64 0]) (t := 64) ?hr ?_; (case hd => rfl); (case hg => rfl); (case hr => first | (go_simp; done) | (go_simp; rfl)); intro gb158 hg w12 hbox hb; have BK158 := Aside0.mk (hbox); have GW158 := gS HB hg; have GE158 := gS HB hg; replace HB := bS HB hb; have NB156_158 := nL BK156 hg; have NB158_156 := nR BK156 hg; replace BK156 := kB BK156 hb; clear hb hbox hg; have hnb13 := NB158_156.out; have hnc13 := NB156_158.out; have hcz14_0 := bc0 BK158; have hcz14_1 := bc1 BK158; have hcz14_2 := bc2 BK158; have hcz14_3 := bc3 BK158; have hfz14_0 := bf BK158 0; have hfz14_1 := bf BK158 1; have hfz14_2 := bf BK158 2; have hfz14_3 := bf BK158 3))
       go_ret
       exact ⟨zE, zB HB⟩
      ·rw [if_neg c10] at H
       have c10b0 : (((rd_T64 l0_2 x9_1).f2) == a3) = false := beq_eq_false_iff_ne.mpr c10
       have c10b1 : (((rd_T64 l0_2 x9_1).f2) != a3) = true := bne_iff_ne.mpr c10
       have H' := Aside0.mk H
       clear H
       have hcz15_0 := bc0 BK156
       have hcz15_1 := bc1 BK156
       have hcz15_2 := bc2 BK156
       have hfz15_0 := bf BK156 0
       have hfz15_1 := bf BK156 1
       have hfz15_2 := bf BK156 2
       have p157 : 0 ≤ (x9_1 : Int) := zD
       have q157 : x9_1 < (l0_2.length : Int) := zD
       obtain ⟨ad157, e157, hx157_0, hx157_1, hx157_2, hx157_3⟩ := at_T64 HR0_2.out x9_1 p157 q157
       cases e157
       replace hx157_0 := hL HB hx157_0
       replace hx157_1 := hL HB hx157_1
       replace hx157_2 := hL HB hx157_2
       replace hx157_3 := hL HB hx157_3
       replace p157 := eq_true p157
       replace q157 := eq_true q157
       go_wp2_with (first | ((with_reducible refine gate_dst (N := 10) rfl ?_); refine box_event ?hg (N := 10) ?hd (cs := #[.int .i64 0, .bool false, .int .i64 0, .int .i64 0]) (t := 64) ?hr ?_; (case hd => rfl); (case hg => rfl); (case hr => first | (go_simp; done) | (go_simp; rfl)); intro gb158 hg w16 hbox hb; have BK158 := Aside0.mk (hbox); have GW158 := gS HB hg; have GE158 := gS HB hg; replace HB := bS HB hb; have NB156_158 := nL BK156 hg; have NB158_156 := nR BK156 hg; replace BK156 := kB BK156 hb; clear hb hbox hg; have hnb17 := NB158_156.out; have hnc17 := NB156_158.out; have hcz18_0 := bc0 BK158; have hcz18_1 := bc1 BK158; have hcz18_2 := bc2 BK158; have hcz18_3 := bc3 BK158; have hfz18_0 := bf BK158 0; have hfz18_1 := bf BK158 1; have hfz18_2 := bf BK158 2; have hfz18_3 := bf BK158 3))
       go_roundg k1
       case measure => have := HK1.out; omega
       case rel => exact ⟨(wrap64 (x9_1 + 1)), zF, H', ⟨by have := HK1.out; omega⟩, ⟨by (with_reducible repeat (first | refine blk_drewN ?_ _ | refine blk_drew ?_ | refine blk_alloc ?_ _)); refine blk_far ?_ NB156_158.out _; (with_reducible repeat (first | refine blk_drewN ?_ _ | refine blk_drew ?_ | refine blk_alloc ?_ _)); refine blk_far ?_ NB156_158.out _; (with_reducible repeat (first | refine blk_drewN ?_ _ | refine blk_drew ?_ | refine blk_alloc ?_ _)); refine blk_far ?_ NB156_158.out _; (with_reducible repeat (first | refine blk_drewN ?_ _ | refine blk_drew ?_ | refine blk_alloc ?_ _)); refine blk_far ?_ NB156_158.out _; (with_reducible repeat (first | refine blk_drewN ?_ _ | refine blk_drew ?_ | refine blk_alloc ?_ _)); exact BK156.out⟩, ⟨zB HB⟩⟩
     ·rw [if_neg c9] at H
      have c9b0 : (((rd_T64 l0_2 x9_1).f1) == a2) = false := by simpa using c9
      (try (have c9b1 : decide (((rd_T64 l0_2 x9_1).f1) = a2) = false := by simpa using c9))
      (try (have c9b2 : (((rd_T64 l0_2 x9_1).f1) == a2) = false := by simpa using c9))
      (try (have c9b3 : ¬ (((rd_T64 l0_2 x9_1).f1) = a2) := by simpa using c9))
      clear c9
      have H' := Aside0.mk H
      clear H
      have hcz19_0 := bc0 BK156
      have hcz19_1 := bc1 BK156
      have hcz19_2 := bc2 BK156
      have hfz19_0 := bf BK156 0
      have hfz19_1 := bf BK156 1
      have hfz19_2 := bf BK156 2
      have p157 : 0 ≤ (x9_1 : Int) := zD
      have q157 : x9_1 < (l0_2.length : Int) := zD
      obtain ⟨ad157, e157, hx157_0, hx157_1, hx157_2, hx157_3⟩ := at_T64 HR0_2.out x9_1 p157 q157
      cases e157
      replace hx157_0 := hL HB hx157_0
      replace hx157_1 := hL HB hx157_1
      replace hx157_2 := hL HB hx157_2
      replace hx157_3 := hL HB hx157_3
      replace p157 := eq_true p157
      replace q157 := eq_true q157
      go_wp2_with (first | ((with_reducible refine gate_dst (N := 10) rfl ?_); refine box_event ?hg (N := 10) ?hd (cs := #[.int .i64 0, .bool false, .int .i64 0, .int .i64 0]) (t := 64) ?hr ?_; (case hd => rfl); (case hg => rfl); (case hr => first | (go_simp; done) | (go_simp; rfl)); intro gb158 hg w20 hbox hb; have BK158 := Aside0.mk (hbox); have GW158 := gS HB hg; have GE158 := gS HB hg; replace HB := bS HB hb; have NB156_158 := nL BK156 hg; have NB158_156 := nR BK156 hg; replace BK156 := kB BK156 hb; clear hb hbox hg; have hnb21 := NB158_156.out; have hnc21 := NB156_158.out; have hcz22_0 := bc0 BK158; have hcz22_1 := bc1 BK158; have hcz22_2 := bc2 BK158; have hcz22_3 := bc3 BK158; have hfz22_0 := bf BK158 0; have hfz22_1 := bf BK158 1; have hfz22_2 := bf BK158 2; have hfz22_3 := bf BK158 3))
      go_roundg k1
      case measure => have := HK1.out; omega
      case rel => exact ⟨(wrap64 (x9_1 + 1)), zF, H', ⟨by have := HK1.out; omega⟩, ⟨by (with_reducible repeat (first | refine blk_drewN ?_ _ | refine blk_drew ?_ | refine blk_alloc ?_ _)); refine blk_far ?_ NB156_158.out _; (with_reducible repeat (first | refine blk_drewN ?_ _ | refine blk_drew ?_ | refine blk_alloc ?_ _)); refine blk_far ?_ NB156_158.out _; (with_reducible repeat (first | refine blk_drewN ?_ _ | refine blk_drew ?_ | refine blk_alloc ?_ _)); refine blk_far ?_ NB156_158.out _; (with_reducible repeat (first | refine blk_drewN ?_ _ | refine blk_drew ?_ | refine blk_alloc ?_ _)); refine blk_far ?_ NB156_158.out _; (with_reducible repeat (first | refine blk_drewN ?_ _ | refine blk_drew ?_ | refine blk_alloc ?_ _)); exact BK156.out⟩, ⟨zB HB⟩⟩
    ·rw [if_neg c8] at H
     have c8b0 : (((rd_T64 l0_2 x9_1).f0) == a1) = false := beq_eq_false_iff_ne.mpr c8
     have c8b1 : (((rd_T64 l0_2 x9_1).f0) != a1) = true := bne_iff_ne.mpr c8
     have H' := Aside0.mk H
     clear H
     have hcz23_0 := bc0 BK156
     have hcz23_1 := bc1 BK156
     have hcz23_2 := bc2 BK156
     have hfz23_0 := bf BK156 0
     have hfz23_1 := bf BK156 1
     have hfz23_2 := bf BK156 2
     have p157 : 0 ≤ (x9_1 : Int) := zD
     have q157 : x9_1 < (l0_2.length : Int) := zD
     obtain ⟨ad157, e157, hx157_0, hx157_1, hx157_2, hx157_3⟩ := at_T64 HR0_2.out x9_1 p157 q157
     cases e157
     replace hx157_0 := hL HB hx157_0
     replace hx157_1 := hL HB hx157_1
     replace hx157_2 := hL HB hx157_2
     replace hx157_3 := hL HB hx157_3
     replace p157 := eq_true p157
     replace q157 := eq_true q157
     go_wp2_with (first | ((with_reducible refine gate_dst (N := 10) rfl ?_); refine box_event ?hg (N := 10) ?hd (cs := #[.int .i64 0, .bool false, .int .i64 0, .int .i64 0]) (t := 64) ?hr ?_; (case hd => rfl); (case hg => rfl); (case hr => first | (go_simp; done) | (go_simp; rfl)); intro gb158 hg w24 hbox hb; have BK158 := Aside0.mk (hbox); have GW158 := gS HB hg; have GE158 := gS HB hg; replace HB := bS HB hb; have NB156_158 := nL BK156 hg; have NB158_156 := nR BK156 hg; replace BK156 := kB BK156 hb; clear hb hbox hg; have hnb25 := NB158_156.out; have hnc25 := NB156_158.out; have hcz26_0 := bc0 BK158; have hcz26_1 := bc1 BK158; have hcz26_2 := bc2 BK158; have hcz26_3 := bc3 BK158; have hfz26_0 := bf BK158 0; have hfz26_1 := bf BK158 1; have hfz26_2 := bf BK158 2; have hfz26_3 := bf BK158 3))
     go_roundg k1
     case measure => have := HK1.out; omega
     case rel => exact ⟨(wrap64 (x9_1 + 1)), zF, H', ⟨by have := HK1.out; omega⟩, ⟨by (with_reducible repeat (first | refine blk_drewN ?_ _ | refine blk_drew ?_ | refine blk_alloc ?_ _)); refine blk_far ?_ NB156_158.out _; (with_reducible repeat (first | refine blk_drewN ?_ _ | refine blk_drew ?_ | refine blk_alloc ?_ _)); refine blk_far ?_ NB156_158.out _; (with_reducible repeat (first | refine blk_drewN ?_ _ | refine blk_drew ?_ | refine blk_alloc ?_ _)); refine blk_far ?_ NB156_158.out _; (with_reducible repeat (first | refine blk_drewN ?_ _ | refine blk_drew ?_ | refine blk_alloc ?_ _)); refine blk_far ?_ NB156_158.out _; (with_reducible repeat (first | refine blk_drewN ?_ _ | refine blk_drew ?_ | refine blk_alloc ?_ _)); exact BK156.out⟩, ⟨zB HB⟩⟩
   ·rw [if_neg c6] at H
    have c6b0 : decide (x9_1 < (l0_2.length : Int)) = false := decide_eq_false c6
    clear c6
    obtain rfl := Option.some.inj H
    have hcz27_0 := bc0 BK156
    have hcz27_1 := bc1 BK156
    have hcz27_2 := bc2 BK156
    have hfz27_0 := bf BK156 0
    have hfz27_1 := bf BK156 1
    have hfz27_2 := bf BK156 2
    go_wp2
    go_ret
    exact ⟨zE, zB HB⟩

/-! ### spec_l1In: function 57 -/
def spec_l1In.f (a0 : Int) (a1 : Int) (a2 : Int) : Option (Bool) := if a0 ≥ a1 then (some (decide (a0 ≤ a2))) else (some false)
set_option maxHeartbeats 8000000 in
set_option maxRecDepth 100000 in
theorem spec_l1In.calls (a0 : Int) (a1 : Int) (a2 : Int) (r : Bool) (w : World) (h : spec_l1In.f a0 a1 a2 = some r) :
  Calls Try.prog 57 #[.int .i64 a0, .int .i64 a1, .int .i64 a2] w fun e w' => e = .returned (.bool r) ∧ Drawn0 w w' := by
 have H : (if a0 ≥ a1 then (some (decide (a0 ≤ a2))) else (some false)) = some r := h
 clear h
 by_cases c4 : a0 ≥ a1
 ·rw [if_pos c4] at H
  have c4b0 : decide (a1 ≤ a0) = true := decide_eq_true c4
  clear c4
  obtain rfl := Option.some.inj H
  go_enter Try.func57, Try.ntmps57
  go_wp2
  go_ret
  exact ⟨by first | rfl | (simp; done) | (simp [*]; done), by repeat (first | exact Drawn0.refl _ | apply Drawn0.step)⟩
 ·rw [if_neg c4] at H
  have c4b0 : decide (a1 ≤ a0) = false := decide_eq_false c4
  clear c4
  obtain rfl := Option.some.inj H
  go_enter Try.func57, Try.ntmps57
  go_wp2
  go_ret
  exact ⟨by first | rfl | (simp; done) | (simp [*]; done), by repeat (first | exact Drawn0.refl _ | apply Drawn0.step)⟩

/-! ### spec_IsMachine: function 36 -/
mutual
def spec_IsMachine.j0 : Nat → Bool → Int → List Bool → List (S64) → Option (Bool)
 | 0, _, _, _, _ => none
 | k + 1, x22, x160000, x160001, x160002 => if x22 = true then (some false) else (spec_IsMachine.l0 k 0 x160000 x160001 x160002)
def spec_IsMachine.l0 : Nat → Int → Int → List Bool → List (S64) → Option (Bool)
 | 0, _, _, _, _ => none
 | k + 1, x3, x160000, x160001, x160002 => if x3 < (x160002.length : Int) then (if 0 ≤ x3 then ((spec_l1In.f ((rd_T64 x160002 x3).f0) 0 (wrap64 (x160000 - 1))).bind fun t163 => (if t163 = true then ((spec_l1In.f ((rd_T64 x160002 x3).f3) 0 (wrap64 (x160000 - 1))).bind fun t164 => (if t164 = true then ((spec_l1In.f ((rd_T64 x160002 x3).f2) 0 5).bind fun t165 => (if t165 = true then ((spec_MoveOf.f k x160000 x160001 x160002 ((rd_T64 x160002 x3).f0) ((rd_T64 x160002 x3).f1) ((rd_T64 x160002 x3).f2)).bind fun t166 => (if t166 < x3 then (some false) else ((spec_MovesFrom.f k x160000 x160001 x160002 ((rd_T64 x160002 x3).f0) (!((rd_T64 x160002 x3).f1))).bind fun t167 => (if (t167.length : Int) > 0 then (some false) else (spec_IsMachine.l0 k (wrap64 (x3 + 1)) x160000 x160001 x160002))))) else (some false))) else (some false))) else (some false))) else (none)) else (some true)
end
def spec_IsMachine.f (k : Nat) (a0_0 : Int) (l0_1 : List Bool) (l0_2 : List (S64)) : Option (Bool) := (spec_l1In.f a0_0 1 6).bind fun t160 => (if t160 = true then (if (l0_1.length : Int) = a0_0 then (spec_IsMachine.j0 k (decide ((l0_2.length : Int) > 12)) a0_0 l0_1 l0_2) else (spec_IsMachine.j0 k true a0_0 l0_1 l0_2)) else (spec_IsMachine.j0 k true a0_0 l0_1 l0_2))
theorem spec_IsMachine.mono_l : ∀ k, (∀ y0 y1 y2 y3, LeO (spec_IsMachine.j0 k y0 y1 y2 y3) (spec_IsMachine.j0 (k + 1) y0 y1 y2 y3)) ∧ (∀ y0 y1 y2 y3, LeO (spec_IsMachine.l0 k y0 y1 y2 y3) (spec_IsMachine.l0 (k + 1) y0 y1 y2 y3))
 | 0 => ⟨fun _ _ _ _ r h => by simp [spec_IsMachine.j0] at h, fun _ _ _ _ r h => by simp [spec_IsMachine.l0] at h⟩
 | k + 1 => by
  obtain ⟨ih0, ih1⟩ := spec_IsMachine.mono_l k
  refine ⟨?_, ?_⟩
  ·intro y0 y1 y2 y3
   unfold spec_IsMachine.j0
   repeat' first
   | (with_reducible exact ih0 _ _ _ _)
   | (with_reducible exact ih1 _ _ _ _)
   | (with_reducible exact spec_MoveOf.mono _ _ _ _ _ _ _)
   | (with_reducible exact spec_MovesFrom.mono _ _ _ _ _ _)
   | (with_reducible exact LeO.refl _)
   | (with_reducible exact LeO.none _)
   | (with_reducible refine LeO.ite ?_ ?_)
   | (with_reducible refine LeO.bind ?_ (fun _ => ?_))
   | exact ih0 _ _ _ _
   | exact ih1 _ _ _ _
   | exact spec_MoveOf.mono _ _ _ _ _ _ _
   | exact spec_MovesFrom.mono _ _ _ _ _ _
   | exact LeO.none _
   | refine LeO.ite ?_ ?_
   | refine LeO.bind ?_ (fun _ => ?_)
  ·intro y0 y1 y2 y3
   unfold spec_IsMachine.l0
   repeat' first
   | (with_reducible exact ih0 _ _ _ _)
   | (with_reducible exact ih1 _ _ _ _)
   | (with_reducible exact spec_MoveOf.mono _ _ _ _ _ _ _)
   | (with_reducible exact spec_MovesFrom.mono _ _ _ _ _ _)
   | (with_reducible exact LeO.refl _)
   | (with_reducible exact LeO.none _)
   | (with_reducible refine LeO.ite ?_ ?_)
   | (with_reducible refine LeO.bind ?_ (fun _ => ?_))
   | exact ih0 _ _ _ _
   | exact ih1 _ _ _ _
   | exact spec_MoveOf.mono _ _ _ _ _ _ _
   | exact spec_MovesFrom.mono _ _ _ _ _ _
   | exact LeO.none _
   | refine LeO.ite ?_ ?_
   | refine LeO.bind ?_ (fun _ => ?_)
theorem spec_IsMachine.mono : ∀ a0 a1 a2 k, LeO (spec_IsMachine.f k a0 a1 a2) (spec_IsMachine.f (k + 1) a0 a1 a2) := by
 intro a0 a1 a2 k
 obtain ⟨ih0, ih1⟩ := spec_IsMachine.mono_l k
 unfold spec_IsMachine.f
 repeat' first
   | (with_reducible exact ih0 _ _ _ _)
   | (with_reducible exact ih1 _ _ _ _)
   | (with_reducible exact spec_MoveOf.mono _ _ _ _ _ _ _)
   | (with_reducible exact spec_MovesFrom.mono _ _ _ _ _ _)
   | (with_reducible exact LeO.refl _)
   | (with_reducible exact LeO.none _)
   | (with_reducible refine LeO.ite ?_ ?_)
   | (with_reducible refine LeO.bind ?_ (fun _ => ?_))
   | exact ih0 _ _ _ _
   | exact ih1 _ _ _ _
   | exact spec_MoveOf.mono _ _ _ _ _ _ _
   | exact spec_MovesFrom.mono _ _ _ _ _ _
   | exact LeO.none _
   | refine LeO.ite ?_ ?_
   | refine LeO.bind ?_ (fun _ => ?_)
set_option maxHeartbeats 8000000 in
set_option maxRecDepth 100000 in
theorem spec_IsMachine.calls (k : Nat) (a0_0 : Int) (A0_1 : Option Addr) (c0_1 : Nat) (l0_1 : List Bool) (A0_2 : Option Addr) (c0_2 : Nat) (l0_2 : List (S64)) (r : Bool) (w : World) (hr0_1 : Kd.C Kd.bool w A0_1 l0_1.length l0_1) (hc0_1 : l0_1.length ≤ c0_1) (hr0_2 : Kd.C k64 w A0_2 l0_2.length l0_2) (hc0_2 : l0_2.length ≤ c0_2) (h : spec_IsMachine.f k a0_0 l0_1 l0_2 = some r) :
  Calls Try.prog 36 #[.agg #[.int .i64 a0_0, .slice A0_1 l0_1.length c0_1, .slice A0_2 l0_2.length c0_2]] w fun e w' => e = .returned (.bool r) ∧ Below w.heap.size w w' := by
 have hu31 := Try.underlying31
 have hu64 := Try.underlying64
 have HR0_1 := Aside0.mk hr0_1
 have HC0_1 := Aside0.mk hc0_1
 clear hr0_1 hc0_1
 have HR0_2 := Aside0.mk hr0_2
 have HC0_2 := Aside0.mk hc0_2
 clear hr0_2 hc0_2
 have HB := Aside0.mk (Below.refl w.heap.size w)
 have H : ((spec_l1In.f a0_0 1 6).bind fun t160 => (if t160 = true then (if (l0_1.length : Int) = a0_0 then (spec_IsMachine.j0 k (decide ((l0_2.length : Int) > 12)) a0_0 l0_1 l0_2) else (spec_IsMachine.j0 k true a0_0 l0_1 l0_2)) else (spec_IsMachine.j0 k true a0_0 l0_1 l0_2))) = some r := h
 clear h
 have HC2 := Aside0.mk H
 clear H
 go_enter Try.func36, Try.ntmps36
 go_upto_region 1 with (first | ((with_reducible refine gate_dst (N := 1) rfl ?_); (try (refine gate_guard (by rfl) ?_; dsimp only)); refine box_event ?hg (N := 1) ?hd (cs := #[.int .i64 a0_0, .slice A0_1 l0_1.length c0_1, .slice A0_2 l0_2.length c0_2]) (t := 31) ?hr ?_; (case hd => rfl); (case hg => rfl); (case hr => first | (go_simp; done) | (go_simp; rfl)); intro gb159 hg w3 hbox hb; have BK159 := Aside0.mk (hbox); have GW159 := gS HB hg; have GE159 := gS HB hg; replace HB := bS HB hb; clear hb hbox hg))
 (try simp only [Act.put, List.setIfInBounds_toArray, List.set_cons_zero, List.set_cons_succ])
 go_cut [22] (fun v22 wc => ∃ (kq : Nat) (x22_1 : Bool), v22 = .bool x22_1 ∧ Aside0 (spec_IsMachine.j0 kq x22_1 a0_0 l0_1 l0_2 = some r) ∧ Aside0 (kq ≤ k) ∧ Aside0 (wc.heap[gb159]? = some (.cells #[.int .i64 a0_0, (.slice A0_1 l0_1.length c0_1), (.slice A0_2 l0_2.length c0_2)] 31 (0, 0))) ∧ Aside0 (Below w.heap.size w wc))
 case first =>
  have H := HC2.out
  clear HC2
  obtain ⟨t160, A4, H⟩ := bindS H
  by_cases c5 : t160 = true
  ·subst c5
   have H1 : (if (l0_1.length : Int) = a0_0 then (spec_IsMachine.j0 k (decide ((l0_2.length : Int) > 12)) a0_0 l0_1 l0_2) else (spec_IsMachine.j0 k true a0_0 l0_1 l0_2)) = some r := by rw [if_pos rfl] at H; exact H
   clear H
   have H := H1
   clear H1
   by_cases c6 : (l0_1.length : Int) = a0_0
   ·rw [if_pos c6] at H
    have c6b0 : ((l0_1.length : Int) == a0_0) = true := beq_iff_eq.mpr c6
    have c6b1 : ((l0_1.length : Int) != a0_0) = false := bne_eq_false_iff_eq.mpr c6
    clear c6
    (first | rw [c6b0] | (simp only [i64_w, i32_w]; rw [c6b0]) | skip)
    have H' := Aside0.mk H
    clear H
    have hcz7_0 := bc0 BK159
    have hcz7_1 := bc1 BK159
    have hcz7_2 := bc2 BK159
    have hfz7_0 := bf BK159 0
    have hfz7_1 := bf BK159 1
    have hfz7_2 := bf BK159 2
    go_wp2_with (first | ((with_reducible refine gate_callee (f := 57) rfl ?_); refine goesL_ (some 7) rfl rfl Try.func57 (by kernel_rfl) rfl #[.int .i64 a0_0, .int .i64 1, .int .i64 6] rfl zG ?_; (with_reducible refine (spec_l1In.calls a0_0 1 6 true _ A4.out).mono ?_); rintro e w' ⟨rfl, ⟨nd, rfl⟩⟩; refine ⟨_, rfl, ?_⟩))
    go_meet
    case rel => exact ⟨_, (decide ((l0_2.length : Int) > 12)), zF, H', ⟨by first | omega | exact Nat.le_refl _⟩, ⟨zK BK159⟩, ⟨zB HB⟩⟩
   ·rw [if_neg c6] at H
    have c6b0 : ((l0_1.length : Int) == a0_0) = false := beq_eq_false_iff_ne.mpr c6
    have c6b1 : ((l0_1.length : Int) != a0_0) = true := bne_iff_ne.mpr c6
    (first | rw [c6b0] | (simp only [i64_w, i32_w]; rw [c6b0]) | skip)
    have H' := Aside0.mk H
    clear H
    have hcz8_0 := bc0 BK159
    have hcz8_1 := bc1 BK159
    have hcz8_2 := bc2 BK159
    have hfz8_0 := bf BK159 0
    have hfz8_1 := bf BK159 1
    have hfz8_2 := bf BK159 2
    go_wp2_with (first | ((with_reducible refine gate_callee (f := 57) rfl ?_); refine goesL_ (some 7) rfl rfl Try.func57 (by kernel_rfl) rfl #[.int .i64 a0_0, .int .i64 1, .int .i64 6] rfl zG ?_; (with_reducible refine (spec_l1In.calls a0_0 1 6 true _ A4.out).mono ?_); rintro e w' ⟨rfl, ⟨nd, rfl⟩⟩; refine ⟨_, rfl, ?_⟩))
    go_meet
    case rel => exact ⟨_, (true), zF, H', ⟨by first | omega | exact Nat.le_refl _⟩, ⟨zK BK159⟩, ⟨zB HB⟩⟩
  ·replace c5 := Bool.eq_false_iff.mpr c5
   subst c5
   have H1 : (spec_IsMachine.j0 k true a0_0 l0_1 l0_2) = some r := by rw [if_neg (show ¬ (false = true) by decide)] at H; exact H
   clear H
   have H := H1
   clear H1
   have H' := Aside0.mk H
   clear H
   have hcz9_0 := bc0 BK159
   have hcz9_1 := bc1 BK159
   have hcz9_2 := bc2 BK159
   have hfz9_0 := bf BK159 0
   have hfz9_1 := bf BK159 1
   have hfz9_2 := bf BK159 2
   go_wp2_with (first | ((with_reducible refine gate_callee (f := 57) rfl ?_); refine goesL_ (some 7) rfl rfl Try.func57 (by kernel_rfl) rfl #[.int .i64 a0_0, .int .i64 1, .int .i64 6] rfl zG ?_; (with_reducible refine (spec_l1In.calls a0_0 1 6 false _ A4.out).mono ?_); rintro e w' ⟨rfl, ⟨nd, rfl⟩⟩; refine ⟨_, rfl, ?_⟩))
   go_meet
   case rel => exact ⟨_, (true), zF, H', ⟨by first | omega | exact Nat.le_refl _⟩, ⟨zK BK159⟩, ⟨zB HB⟩⟩
 case rest =>
  clear HC2
  try clear p2
  try clear c3
  try clear c5
  try clear c6
  try clear c6b0
  try clear c6b1
  try clear hcz7_0
  try clear hcz7_1
  try clear hcz7_2
  try clear hcz8_0
  try clear hcz8_1
  try clear hcz8_2
  try clear hcz9_0
  try clear hcz9_1
  try clear hcz9_2
  try clear hfz7_0
  try clear hfz7_1
  try clear hfz7_2
  try clear hfz8_0
  try clear hfz8_1
  try clear hfz8_2
  try clear hfz9_0
  try clear hfz9_1
  try clear hfz9_2
  obtain ⟨kq, x22_1, rfl, HA, HJ1, BK159, HB⟩ := hcut
  cases kq with
  | zero => exact absurd HA.out (by simp [spec_IsMachine.j0])
  | succ kj1 =>
   have H := HA.out
   clear HA
   simp only [spec_IsMachine.j0] at H
   by_cases c10 : x22_1 = true
   ·subst c10
    have H1 : (some false) = some r := by rw [if_pos rfl] at H; exact H
    clear H
    have H := H1
    clear H1
    obtain rfl := Option.some.inj H
    go_wp2
    go_ret
    exact ⟨zE, zB HB⟩
   ·replace c10 := Bool.eq_false_iff.mpr c10
    subst c10
    have H1 : (spec_IsMachine.l0 kj1 0 a0_0 l0_1 l0_2) = some r := by rw [if_neg (show ¬ (false = true) by decide)] at H; exact H
    clear H
    have H := H1
    clear H1
    have H' := Aside0.mk H
    clear H
    go_wp2
    go_loopg [3] kj1 (fun kq v3 w' => ∃ (x3_2 : Int), v3 = .int .i64 x3_2 ∧ Aside0 (spec_IsMachine.l0 kq x3_2 a0_0 l0_1 l0_2 = some r) ∧ Aside0 (kq ≤ kj1) ∧ Aside0 (w'.heap[gb159]? = some (.cells #[.int .i64 a0_0, (.slice A0_1 l0_1.length c0_1), (.slice A0_2 l0_2.length c0_2)] 31 (0, 0))) ∧ Aside0 (Below w.heap.size w w'))
    case atStart => exact ⟨(0), zF, H', ⟨Nat.le_refl _⟩, ⟨zK BK159⟩, ⟨zB HB⟩⟩
    case round =>
     clear H'
     try clear c1
     try clear p2
     try clear c3
     try clear c5
     try clear c6
     try clear c6b0
     try clear c6b1
     try clear c10
     try clear hcz7_0
     try clear hcz7_1
     try clear hcz7_2
     try clear hcz8_0
     try clear hcz8_1
     try clear hcz8_2
     try clear hcz9_0
     try clear hcz9_1
     try clear hcz9_2
     try clear hfz7_0
     try clear hfz7_1
     try clear hfz7_2
     try clear hfz8_0
     try clear hfz8_1
     try clear hfz8_2
     try clear hfz9_0
     try clear hfz9_1
     try clear hfz9_2
     try clear p2
     obtain ⟨x3_2, rfl, HA, HK2, BK159, HB⟩ := hrel
     cases gk with
     | zero => exact absurd HA.out (by simp [spec_IsMachine.l0])
     | succ k2 =>
      have H := HA.out
      clear HA
      simp only [spec_IsMachine.l0] at H
      by_cases c11 : x3_2 < (l0_2.length : Int)
      ·rw [if_pos c11] at H
       have c11b0 : decide (x3_2 < (l0_2.length : Int)) = true := decide_eq_true c11
       clear c11
       obtain ⟨c12, H⟩ := ifS H
       have c12b0 : decide (0 ≤ x3_2) = true := decide_eq_true c12
       clear c12
       obtain ⟨t163, A13, H⟩ := bindS H
       by_cases c14 : t163 = true
       ·subst c14
        have H1 : ((spec_l1In.f ((rd_T64 l0_2 x3_2).f3) 0 (wrap64 (a0_0 - 1))).bind fun t164 => (if t164 = true then ((spec_l1In.f ((rd_T64 l0_2 x3_2).f2) 0 5).bind fun t165 => (if t165 = true then ((spec_MoveOf.f k2 a0_0 l0_1 l0_2 ((rd_T64 l0_2 x3_2).f0) ((rd_T64 l0_2 x3_2).f1) ((rd_T64 l0_2 x3_2).f2)).bind fun t166 => (if t166 < x3_2 then (some false) else ((spec_MovesFrom.f k2 a0_0 l0_1 l0_2 ((rd_T64 l0_2 x3_2).f0) (!((rd_T64 l0_2 x3_2).f1))).bind fun t167 => (if (t167.length : Int) > 0 then (some false) else (spec_IsMachine.l0 k2 (wrap64 (x3_2 + 1)) a0_0 l0_1 l0_2))))) else (some false))) else (some false))) = some r := by rw [if_pos rfl] at H; exact H
        clear H
        have H := H1
        clear H1
        obtain ⟨t164, A15, H⟩ := bindS H
        by_cases c16 : t164 = true
        ·subst c16
         have H1 : ((spec_l1In.f ((rd_T64 l0_2 x3_2).f2) 0 5).bind fun t165 => (if t165 = true then ((spec_MoveOf.f k2 a0_0 l0_1 l0_2 ((rd_T64 l0_2 x3_2).f0) ((rd_T64 l0_2 x3_2).f1) ((rd_T64 l0_2 x3_2).f2)).bind fun t166 => (if t166 < x3_2 then (some false) else ((spec_MovesFrom.f k2 a0_0 l0_1 l0_2 ((rd_T64 l0_2 x3_2).f0) (!((rd_T64 l0_2 x3_2).f1))).bind fun t167 => (if (t167.length : Int) > 0 then (some false) else (spec_IsMachine.l0 k2 (wrap64 (x3_2 + 1)) a0_0 l0_1 l0_2))))) else (some false))) = some r := by rw [if_pos rfl] at H; exact H
         clear H
         have H := H1
         clear H1
         obtain ⟨t165, A17, H⟩ := bindS H
         by_cases c18 : t165 = true
         ·subst c18
          have H1 : ((spec_MoveOf.f k2 a0_0 l0_1 l0_2 ((rd_T64 l0_2 x3_2).f0) ((rd_T64 l0_2 x3_2).f1) ((rd_T64 l0_2 x3_2).f2)).bind fun t166 => (if t166 < x3_2 then (some false) else ((spec_MovesFrom.f k2 a0_0 l0_1 l0_2 ((rd_T64 l0_2 x3_2).f0) (!((rd_T64 l0_2 x3_2).f1))).bind fun t167 => (if (t167.length : Int) > 0 then (some false) else (spec_IsMachine.l0 k2 (wrap64 (x3_2 + 1)) a0_0 l0_1 l0_2))))) = some r := by rw [if_pos rfl] at H; exact H
          clear H
          have H := H1
          clear H1
          obtain ⟨t166, A19, H⟩ := bindS H
          by_cases c20 : t166 < x3_2
          ·rw [if_pos c20] at H
           have c20b0 : decide (t166 < x3_2) = true := decide_eq_true c20
           clear c20
           obtain rfl := Option.some.inj H
           have hcz21_0 := bc0 BK159
           have hcz21_1 := bc1 BK159
           have hcz21_2 := bc2 BK159
           have hfz21_0 := bf BK159 0
           have hfz21_1 := bf BK159 1
           have hfz21_2 := bf BK159 2
           have p161 : 0 ≤ (x3_2 : Int) := zD
           have q161 : x3_2 < (l0_2.length : Int) := zD
           obtain ⟨ad161, e161, hx161_0, hx161_1, hx161_2, hx161_3⟩ := at_T64 HR0_2.out x3_2 p161 q161
           cases e161
           replace hx161_0 := hL HB hx161_0
           replace hx161_1 := hL HB hx161_1
           replace hx161_2 := hL HB hx161_2
           replace hx161_3 := hL HB hx161_3
           replace p161 := eq_true p161
           replace q161 := eq_true q161
           go_wp2_with (first | ((with_reducible refine gate_dst (N := 4) rfl ?_); (try (refine gate_guard (by rfl) ?_; dsimp only)); refine box_event ?hg (N := 4) ?hd (cs := #[.int .i64 0, .bool false, .int .i64 0, .int .i64 0]) (t := 64) ?hr ?_; (case hd => rfl); (case hg => rfl); (case hr => first | (go_simp; done) | (go_simp; rfl)); intro gb162 hg w22 hbox hb; have BK162 := Aside0.mk (hbox); have GW162 := gS HB hg; have GE162 := gS HB hg; replace HB := bS HB hb; have NB159_162 := nL BK159 hg; have NB162_159 := nR BK159 hg; replace BK159 := kB BK159 hb; clear hb hbox hg; have hnb23 := NB162_159.out; have hnc23 := NB159_162.out; have hcz24_0 := bc0 BK162; have hcz24_1 := bc1 BK162; have hcz24_2 := bc2 BK162; have hcz24_3 := bc3 BK162; have hfz24_0 := bf BK162 0; have hfz24_1 := bf BK162 1; have hfz24_2 := bf BK162 2; have hfz24_3 := bf BK162 3; have hcz25_0 := bc0 BK159; have hcz25_1 := bc1 BK159; have hcz25_2 := bc2 BK159; have hfz25_0 := bf BK159 0; have hfz25_1 := bf BK159 1; have hfz25_2 := bf BK159 2) | ((with_reducible refine gate_callee (f := 57) rfl ?_); refine goesL_ (some 40) rfl rfl Try.func57 (by kernel_rfl) rfl #[.int .i64 ((rd_T64 l0_2 x3_2).f0), .int .i64 0, .int .i64 (wrap64 (a0_0 - 1))] rfl zG ?_; (with_reducible refine (spec_l1In.calls ((rd_T64 l0_2 x3_2).f0) 0 (wrap64 (a0_0 - 1)) true _ A13.out).mono ?_); rintro e w' ⟨rfl, ⟨nd, rfl⟩⟩; refine ⟨_, rfl, ?_⟩) | (go_at_call 57; (with_reducible refine (spec_l1In.calls ((rd_T64 l0_2 x3_2).f3) 0 (wrap64 (a0_0 - 1)) true _ A15.out).mono ?_); rintro e w' ⟨rfl, ⟨nd, rfl⟩⟩) | (go_at_call 57; (with_reducible refine (spec_l1In.calls ((rd_T64 l0_2 x3_2).f2) 0 5 true _ A17.out).mono ?_); rintro e w' ⟨rfl, ⟨nd, rfl⟩⟩) | (go_at_call 50; (with_reducible refine (spec_MoveOf.calls k2 a0_0 _ _ l0_1 _ _ l0_2 ((rd_T64 l0_2 x3_2).f0) ((rd_T64 l0_2 x3_2).f1) ((rd_T64 l0_2 x3_2).f2) t166 _ ?side1 ?side2 ?side3 ?side4 A19.out).mono ?_); (case side1 => exact Kd.C_below HR0_1.out (zB HB)); (case side2 => exact HC0_1.out); (case side3 => exact Kd.C_below HR0_2.out (zB HB)); (case side4 => exact HC0_2.out); rintro e w26 ⟨rfl, hb⟩; replace BK159 := Aside0.mk (blk_below (g := gb159) (o := .cells #[.int .i64 a0_0, .slice A0_1 l0_1.length c0_1, .slice (some ad161) l0_2.length c0_2] 31 (0, 0)) (by (with_reducible repeat (first | refine blk_drewN ?_ _ | refine blk_drew ?_ | refine blk_alloc ?_ _)); refine blk_far ?_ NB159_162.out _; (with_reducible repeat (first | refine blk_drewN ?_ _ | refine blk_drew ?_ | refine blk_alloc ?_ _)); refine blk_far ?_ NB159_162.out _; (with_reducible repeat (first | refine blk_drewN ?_ _ | refine blk_drew ?_ | refine blk_alloc ?_ _)); refine blk_far ?_ NB159_162.out _; (with_reducible repeat (first | refine blk_drewN ?_ _ | refine blk_drew ?_ | refine blk_alloc ?_ _)); refine blk_far ?_ NB159_162.out _; (with_reducible repeat (first | refine blk_drewN ?_ _ | refine blk_drew ?_ | refine blk_alloc ?_ _)); exact BK159.out) hb); replace BK162 := Aside0.mk (blk_below (g := gb162) (o := .cells #[.int .i64 ((rd_T64 l0_2 x3_2).f0), .bool ((rd_T64 l0_2 x3_2).f1), .int .i64 ((rd_T64 l0_2 x3_2).f2), .int .i64 ((rd_T64 l0_2 x3_2).f3)] 64 (0, 0)) (by (with_reducible repeat (first | refine blk_drewN ?_ _ | refine blk_drew ?_ | refine blk_alloc ?_ _)); refine blk_put (cs := #[.int .i64 ((rd_T64 l0_2 x3_2).f0), .bool ((rd_T64 l0_2 x3_2).f1), .int .i64 ((rd_T64 l0_2 x3_2).f2), .int .i64 0]) ?_ 3 _ rfl; (with_reducible repeat (first | refine blk_drewN ?_ _ | refine blk_drew ?_ | refine blk_alloc ?_ _)); refine blk_put (cs := #[.int .i64 ((rd_T64 l0_2 x3_2).f0), .bool ((rd_T64 l0_2 x3_2).f1), .int .i64 0, .int .i64 0]) ?_ 2 _ rfl; (with_reducible repeat (first | refine blk_drewN ?_ _ | refine blk_drew ?_ | refine blk_alloc ?_ _)); refine blk_put (cs := #[.int .i64 ((rd_T64 l0_2 x3_2).f0), .bool false, .int .i64 0, .int .i64 0]) ?_ 1 _ rfl; (with_reducible repeat (first | refine blk_drewN ?_ _ | refine blk_drew ?_ | refine blk_alloc ?_ _)); refine blk_put (cs := #[.int .i64 0, .bool false, .int .i64 0, .int .i64 0]) ?_ 0 _ rfl; (with_reducible repeat (first | refine blk_drewN ?_ _ | refine blk_drew ?_ | refine blk_alloc ?_ _)); exact BK162.out) hb); replace HB := bS HB hb; (try clear hb)))
           go_ret
           exact ⟨zE, zB HB⟩
          ·rw [if_neg c20] at H
           have c20b0 : decide (t166 < x3_2) = false := decide_eq_false c20
           clear c20
           obtain ⟨t167, A27, H⟩ := bindS H
           by_cases c28 : (t167.length : Int) > 0
           ·rw [if_pos c28] at H
            have c28b0 : decide (0 < (t167.length : Int)) = true := decide_eq_true c28
            have c28b1 : decide (0 < t167.length) = true := decide_eq_true (by omega)
            clear c28
            obtain rfl := Option.some.inj H
            have hcz29_0 := bc0 BK159
            have hcz29_1 := bc1 BK159
            have hcz29_2 := bc2 BK159
            have hfz29_0 := bf BK159 0
            have hfz29_1 := bf BK159 1
            have hfz29_2 := bf BK159 2
            have p161 : 0 ≤ (x3_2 : Int) := zD
            have q161 : x3_2 < (l0_2.length : Int) := zD
            obtain ⟨ad161, e161, hx161_0, hx161_1, hx161_2, hx161_3⟩ := at_T64 HR0_2.out x3_2 p161 q161
            cases e161
            replace hx161_0 := hL HB hx161_0
            replace hx161_1 := hL HB hx161_1
            replace hx161_2 := hL HB hx161_2
            replace hx161_3 := hL HB hx161_3
            replace p161 := eq_true p161
            replace q161 := eq_true q161
            go_wp2_with (first | ((with_reducible refine gate_dst (N := 4) rfl ?_); (try (refine gate_guard (by rfl) ?_; dsimp only)); refine box_event ?hg (N := 4) ?hd (cs := #[.int .i64 0, .bool false, .int .i64 0, .int .i64 0]) (t := 64) ?hr ?_; (case hd => rfl); (case hg => rfl); (case hr => first | (go_simp; done) | (go_simp; rfl)); intro gb162 hg w30 hbox hb; have BK162 := Aside0.mk (hbox); have GW162 := gS HB hg; have GE162 := gS HB hg; replace HB := bS HB hb; have NB159_162 := nL BK159 hg; have NB162_159 := nR BK159 hg; replace BK159 := kB BK159 hb; clear hb hbox hg; have hnb31 := NB162_159.out; have hnc31 := NB159_162.out; have hcz32_0 := bc0 BK162; have hcz32_1 := bc1 BK162; have hcz32_2 := bc2 BK162; have hcz32_3 := bc3 BK162; have hfz32_0 := bf BK162 0; have hfz32_1 := bf BK162 1; have hfz32_2 := bf BK162 2; have hfz32_3 := bf BK162 3; have hcz33_0 := bc0 BK159; have hcz33_1 := bc1 BK159; have hcz33_2 := bc2 BK159; have hfz33_0 := bf BK159 0; have hfz33_1 := bf BK159 1; have hfz33_2 := bf BK159 2) | ((with_reducible refine gate_callee (f := 57) rfl ?_); refine goesL_ (some 40) rfl rfl Try.func57 (by kernel_rfl) rfl #[.int .i64 ((rd_T64 l0_2 x3_2).f0), .int .i64 0, .int .i64 (wrap64 (a0_0 - 1))] rfl zG ?_; (with_reducible refine (spec_l1In.calls ((rd_T64 l0_2 x3_2).f0) 0 (wrap64 (a0_0 - 1)) true _ A13.out).mono ?_); rintro e w' ⟨rfl, ⟨nd, rfl⟩⟩; refine ⟨_, rfl, ?_⟩) | (go_at_call 57; (with_reducible refine (spec_l1In.calls ((rd_T64 l0_2 x3_2).f3) 0 (wrap64 (a0_0 - 1)) true _ A15.out).mono ?_); rintro e w' ⟨rfl, ⟨nd, rfl⟩⟩) | (go_at_call 57; (with_reducible refine (spec_l1In.calls ((rd_T64 l0_2 x3_2).f2) 0 5 true _ A17.out).mono ?_); rintro e w' ⟨rfl, ⟨nd, rfl⟩⟩) | (go_at_call 50; (with_reducible refine (spec_MoveOf.calls k2 a0_0 _ _ l0_1 _ _ l0_2 ((rd_T64 l0_2 x3_2).f0) ((rd_T64 l0_2 x3_2).f1) ((rd_T64 l0_2 x3_2).f2) t166 _ ?side1 ?side2 ?side3 ?side4 A19.out).mono ?_); (case side1 => exact Kd.C_below HR0_1.out (zB HB)); (case side2 => exact HC0_1.out); (case side3 => exact Kd.C_below HR0_2.out (zB HB)); (case side4 => exact HC0_2.out); rintro e w34 ⟨rfl, hb⟩; replace BK159 := Aside0.mk (blk_below (g := gb159) (o := .cells #[.int .i64 a0_0, .slice A0_1 l0_1.length c0_1, .slice (some ad161) l0_2.length c0_2] 31 (0, 0)) (by (with_reducible repeat (first | refine blk_drewN ?_ _ | refine blk_drew ?_ | refine blk_alloc ?_ _)); refine blk_far ?_ NB159_162.out _; (with_reducible repeat (first | refine blk_drewN ?_ _ | refine blk_drew ?_ | refine blk_alloc ?_ _)); refine blk_far ?_ NB159_162.out _; (with_reducible repeat (first | refine blk_drewN ?_ _ | refine blk_drew ?_ | refine blk_alloc ?_ _)); refine blk_far ?_ NB159_162.out _; (with_reducible repeat (first | refine blk_drewN ?_ _ | refine blk_drew ?_ | refine blk_alloc ?_ _)); refine blk_far ?_ NB159_162.out _; (with_reducible repeat (first | refine blk_drewN ?_ _ | refine blk_drew ?_ | refine blk_alloc ?_ _)); exact BK159.out) hb); replace BK162 := Aside0.mk (blk_below (g := gb162) (o := .cells #[.int .i64 ((rd_T64 l0_2 x3_2).f0), .bool ((rd_T64 l0_2 x3_2).f1), .int .i64 ((rd_T64 l0_2 x3_2).f2), .int .i64 ((rd_T64 l0_2 x3_2).f3)] 64 (0, 0)) (by (with_reducible repeat (first | refine blk_drewN ?_ _ | refine blk_drew ?_ | refine blk_alloc ?_ _)); refine blk_put (cs := #[.int .i64 ((rd_T64 l0_2 x3_2).f0), .bool ((rd_T64 l0_2 x3_2).f1), .int .i64 ((rd_T64 l0_2 x3_2).f2), .int .i64 0]) ?_ 3 _ rfl; (with_reducible repeat (first | refine blk_drewN ?_ _ | refine blk_drew ?_ | refine blk_alloc ?_ _)); refine blk_put (cs := #[.int .i64 ((rd_T64 l0_2 x3_2).f0), .bool ((rd_T64 l0_2 x3_2).f1), .int .i64 0, .int .i64 0]) ?_ 2 _ rfl; (with_reducible repeat (first | refine blk_drewN ?_ _ | refine blk_drew ?_ | refine blk_alloc ?_ _)); refine blk_put (cs := #[.int .i64 ((rd_T64 l0_2 x3_2).f0), .bool false, .int .i64 0, .int .i64 0]) ?_ 1 _ rfl; (with_reducible repeat (first | refine blk_drewN ?_ _ | refine blk_drew ?_ | refine blk_alloc ?_ _)); refine blk_put (cs := #[.int .i64 0, .bool false, .int .i64 0, .int .i64 0]) ?_ 0 _ rfl; (with_reducible repeat (first | refine blk_drewN ?_ _ | refine blk_drew ?_ | refine blk_alloc ?_ _)); exact BK162.out) hb); replace HB := bS HB hb; (try clear hb); have hcz35_0 := bc0 BK159; have hcz35_1 := bc1 BK159; have hcz35_2 := bc2 BK159; have hfz35_0 := bf BK159 0; have hfz35_1 := bf BK159 1; have hfz35_2 := bf BK159 2; have hcz36_0 := bc0 BK162; have hcz36_1 := bc1 BK162; have hcz36_2 := bc2 BK162; have hcz36_3 := bc3 BK162; have hfz36_0 := bf BK162 0; have hfz36_1 := bf BK162 1; have hfz36_2 := bf BK162 2; have hfz36_3 := bf BK162 3) | (go_at_call 49; (with_reducible refine (spec_MovesFrom.calls k2 a0_0 _ _ l0_1 _ _ l0_2 ((rd_T64 l0_2 x3_2).f0) (!((rd_T64 l0_2 x3_2).f1)) t167 _ ?side1 ?side2 ?side3 ?side4 A27.out).mono ?_); (case side1 => exact cS HR0_1 HB); (case side2 => exact HC0_1.out); (case side3 => exact cS HR0_2 HB); (case side4 => exact HC0_2.out); rintro e w37 ⟨v168, rfl, ho0, hb⟩; have HO169 := Aside0.mk (Kd.R_lower ho0 (below_size (zB HB))); replace BK159 := kB BK159 hb; replace BK162 := kB BK162 hb; replace HB := bS HB hb; (try clear hb); (try clear ho0); obtain ⟨Ao38, co38, eo38⟩ := Kd.R_slice HO169.out; subst eo38))
            go_ret
            exact ⟨zE, zB HB⟩
           ·rw [if_neg c28] at H
            have c28b0 : decide (0 < (t167.length : Int)) = false := decide_eq_false c28
            have c28b1 : decide (0 < t167.length) = false := decide_eq_false (by omega)
            clear c28
            have H' := Aside0.mk H
            clear H
            have hcz39_0 := bc0 BK159
            have hcz39_1 := bc1 BK159
            have hcz39_2 := bc2 BK159
            have hfz39_0 := bf BK159 0
            have hfz39_1 := bf BK159 1
            have hfz39_2 := bf BK159 2
            have p161 : 0 ≤ (x3_2 : Int) := zD
            have q161 : x3_2 < (l0_2.length : Int) := zD
            obtain ⟨ad161, e161, hx161_0, hx161_1, hx161_2, hx161_3⟩ := at_T64 HR0_2.out x3_2 p161 q161
            cases e161
            replace hx161_0 := hL HB hx161_0
            replace hx161_1 := hL HB hx161_1
            replace hx161_2 := hL HB hx161_2
            replace hx161_3 := hL HB hx161_3
            replace p161 := eq_true p161
            replace q161 := eq_true q161
            go_wp2_with (first | ((with_reducible refine gate_dst (N := 4) rfl ?_); (try (refine gate_guard (by rfl) ?_; dsimp only)); refine box_event ?hg (N := 4) ?hd (cs := #[.int .i64 0, .bool false, .int .i64 0, .int .i64 0]) (t := 64) ?hr ?_; (case hd => rfl); (case hg => rfl); (case hr => first | (go_simp; done) | (go_simp; rfl)); intro gb162 hg w40 hbox hb; have BK162 := Aside0.mk (hbox); have GW162 := gS HB hg; have GE162 := gS HB hg; replace HB := bS HB hb; have NB159_162 := nL BK159 hg; have NB162_159 := nR BK159 hg; replace BK159 := kB BK159 hb; clear hb hbox hg; have hnb41 := NB162_159.out; have hnc41 := NB159_162.out; have hcz42_0 := bc0 BK162; have hcz42_1 := bc1 BK162; have hcz42_2 := bc2 BK162; have hcz42_3 := bc3 BK162; have hfz42_0 := bf BK162 0; have hfz42_1 := bf BK162 1; have hfz42_2 := bf BK162 2; have hfz42_3 := bf BK162 3; have hcz43_0 := bc0 BK159; have hcz43_1 := bc1 BK159; have hcz43_2 := bc2 BK159; have hfz43_0 := bf BK159 0; have hfz43_1 := bf BK159 1; have hfz43_2 := bf BK159 2) | ((with_reducible refine gate_callee (f := 57) rfl ?_); refine goesL_ (some 40) rfl rfl Try.func57 (by kernel_rfl) rfl #[.int .i64 ((rd_T64 l0_2 x3_2).f0), .int .i64 0, .int .i64 (wrap64 (a0_0 - 1))] rfl zG ?_; (with_reducible refine (spec_l1In.calls ((rd_T64 l0_2 x3_2).f0) 0 (wrap64 (a0_0 - 1)) true _ A13.out).mono ?_); rintro e w' ⟨rfl, ⟨nd, rfl⟩⟩; refine ⟨_, rfl, ?_⟩) | (go_at_call 57; (with_reducible refine (spec_l1In.calls ((rd_T64 l0_2 x3_2).f3) 0 (wrap64 (a0_0 - 1)) true _ A15.out).mono ?_); rintro e w' ⟨rfl, ⟨nd, rfl⟩⟩) | (go_at_call 57; (with_reducible refine (spec_l1In.calls ((rd_T64 l0_2 x3_2).f2) 0 5 true _ A17.out).mono ?_); rintro e w' ⟨rfl, ⟨nd, rfl⟩⟩) | (go_at_call 50; (with_reducible refine (spec_MoveOf.calls k2 a0_0 _ _ l0_1 _ _ l0_2 ((rd_T64 l0_2 x3_2).f0) ((rd_T64 l0_2 x3_2).f1) ((rd_T64 l0_2 x3_2).f2) t166 _ ?side1 ?side2 ?side3 ?side4 A19.out).mono ?_); (case side1 => exact Kd.C_below HR0_1.out (zB HB)); (case side2 => exact HC0_1.out); (case side3 => exact Kd.C_below HR0_2.out (zB HB)); (case side4 => exact HC0_2.out); rintro e w44 ⟨rfl, hb⟩; replace BK159 := Aside0.mk (blk_below (g := gb159) (o := .cells #[.int .i64 a0_0, .slice A0_1 l0_1.length c0_1, .slice (some ad161) l0_2.length c0_2] 31 (0, 0)) (by (with_reducible repeat (first | refine blk_drewN ?_ _ | refine blk_drew ?_ | refine blk_alloc ?_ _)); refine blk_far ?_ NB159_162.out _; (with_reducible repeat (first | refine blk_drewN ?_ _ | refine blk_drew ?_ | refine blk_alloc ?_ _)); refine blk_far ?_ NB159_162.out _; (with_reducible repeat (first | refine blk_drewN ?_ _ | refine blk_drew ?_ | refine blk_alloc ?_ _)); refine blk_far ?_ NB159_162.out _; (with_reducible repeat (first | refine blk_drewN ?_ _ | refine blk_drew ?_ | refine blk_alloc ?_ _)); refine blk_far ?_ NB159_162.out _; (with_reducible repeat (first | refine blk_drewN ?_ _ | refine blk_drew ?_ | refine blk_alloc ?_ _)); exact BK159.out) hb); replace BK162 := Aside0.mk (blk_below (g := gb162) (o := .cells #[.int .i64 ((rd_T64 l0_2 x3_2).f0), .bool ((rd_T64 l0_2 x3_2).f1), .int .i64 ((rd_T64 l0_2 x3_2).f2), .int .i64 ((rd_T64 l0_2 x3_2).f3)] 64 (0, 0)) (by (with_reducible repeat (first | refine blk_drewN ?_ _ | refine blk_drew ?_ | refine blk_alloc ?_ _)); refine blk_put (cs := #[.int .i64 ((rd_T64 l0_2 x3_2).f0), .bool ((rd_T64 l0_2 x3_2).f1), .int .i64 ((rd_T64 l0_2 x3_2).f2), .int .i64 0]) ?_ 3 _ rfl; (with_reducible repeat (first | refine blk_drewN ?_ _ | refine blk_drew ?_ | refine blk_alloc ?_ _)); refine blk_put (cs := #[.int .i64 ((rd_T64 l0_2 x3_2).f0), .bool ((rd_T64 l0_2 x3_2).f1), .int .i64 0, .int .i64 0]) ?_ 2 _ rfl; (with_reducible repeat (first | refine blk_drewN ?_ _ | refine blk_drew ?_ | refine blk_alloc ?_ _)); refine blk_put (cs := #[.int .i64 ((rd_T64 l0_2 x3_2).f0), .bool false, .int .i64 0, .int .i64 0]) ?_ 1 _ rfl; (with_reducible repeat (first | refine blk_drewN ?_ _ | refine blk_drew ?_ | refine blk_alloc ?_ _)); refine blk_put (cs := #[.int .i64 0, .bool false, .int .i64 0, .int .i64 0]) ?_ 0 _ rfl; (with_reducible repeat (first | refine blk_drewN ?_ _ | refine blk_drew ?_ | refine blk_alloc ?_ _)); exact BK162.out) hb); replace HB := bS HB hb; (try clear hb); have hcz45_0 := bc0 BK159; have hcz45_1 := bc1 BK159; have hcz45_2 := bc2 BK159; have hfz45_0 := bf BK159 0; have hfz45_1 := bf BK159 1; have hfz45_2 := bf BK159 2; have hcz46_0 := bc0 BK162; have hcz46_1 := bc1 BK162; have hcz46_2 := bc2 BK162; have hcz46_3 := bc3 BK162; have hfz46_0 := bf BK162 0; have hfz46_1 := bf BK162 1; have hfz46_2 := bf BK162 2; have hfz46_3 := bf BK162 3) | (go_at_call 49; (with_reducible refine (spec_MovesFrom.calls k2 a0_0 _ _ l0_1 _ _ l0_2 ((rd_T64 l0_2 x3_2).f0) (!((rd_T64 l0_2 x3_2).f1)) t167 _ ?side1 ?side2 ?side3 ?side4 A27.out).mono ?_); (case side1 => exact cS HR0_1 HB); (case side2 => exact HC0_1.out); (case side3 => exact cS HR0_2 HB); (case side4 => exact HC0_2.out); rintro e w47 ⟨v168, rfl, ho0, hb⟩; have HO169 := Aside0.mk (Kd.R_lower ho0 (below_size (zB HB))); replace BK159 := kB BK159 hb; replace BK162 := kB BK162 hb; replace HB := bS HB hb; (try clear hb); (try clear ho0); obtain ⟨Ao48, co48, eo48⟩ := Kd.R_slice HO169.out; subst eo48))
            go_roundg k2
            case measure => have := HJ1.out; have := HK2.out; omega
            case rel => exact ⟨(wrap64 (x3_2 + 1)), zF, H', ⟨by have := HJ1.out; have := HK2.out; omega⟩, ⟨zK BK159⟩, ⟨zB HB⟩⟩
         ·replace c18 := Bool.eq_false_iff.mpr c18
          subst c18
          have H1 : (some false) = some r := by rw [if_neg (show ¬ (false = true) by decide)] at H; exact H
          clear H
          have H := H1
          clear H1
          obtain rfl := Option.some.inj H
          have hcz49_0 := bc0 BK159
          have hcz49_1 := bc1 BK159
          have hcz49_2 := bc2 BK159
          have hfz49_0 := bf BK159 0
          have hfz49_1 := bf BK159 1
          have hfz49_2 := bf BK159 2
          have p161 : 0 ≤ (x3_2 : Int) := zD
          have q161 : x3_2 < (l0_2.length : Int) := zD
          obtain ⟨ad161, e161, hx161_0, hx161_1, hx161_2, hx161_3⟩ := at_T64 HR0_2.out x3_2 p161 q161
          cases e161
          replace hx161_0 := hL HB hx161_0
          replace hx161_1 := hL HB hx161_1
          replace hx161_2 := hL HB hx161_2
          replace hx161_3 := hL HB hx161_3
          replace p161 := eq_true p161
          replace q161 := eq_true q161
          go_wp2_with (first | ((with_reducible refine gate_dst (N := 4) rfl ?_); (try (refine gate_guard (by rfl) ?_; dsimp only)); refine box_event ?hg (N := 4) ?hd (cs := #[.int .i64 0, .bool false, .int .i64 0, .int .i64 0]) (t := 64) ?hr ?_; (case hd => rfl); (case hg => rfl); (case hr => first | (go_simp; done) | (go_simp; rfl)); intro gb162 hg w50 hbox hb; have BK162 := Aside0.mk (hbox); have GW162 := gS HB hg; have GE162 := gS HB hg; replace HB := bS HB hb; have NB159_162 := nL BK159 hg; have NB162_159 := nR BK159 hg; replace BK159 := kB BK159 hb; clear hb hbox hg; have hnb51 := NB162_159.out; have hnc51 := NB159_162.out; have hcz52_0 := bc0 BK162; have hcz52_1 := bc1 BK162; have hcz52_2 := bc2 BK162; have hcz52_3 := bc3 BK162; have hfz52_0 := bf BK162 0; have hfz52_1 := bf BK162 1; have hfz52_2 := bf BK162 2; have hfz52_3 := bf BK162 3; have hcz53_0 := bc0 BK159; have hcz53_1 := bc1 BK159; have hcz53_2 := bc2 BK159; have hfz53_0 := bf BK159 0; have hfz53_1 := bf BK159 1; have hfz53_2 := bf BK159 2) | ((with_reducible refine gate_callee (f := 57) rfl ?_); refine goesL_ (some 40) rfl rfl Try.func57 (by kernel_rfl) rfl #[.int .i64 ((rd_T64 l0_2 x3_2).f0), .int .i64 0, .int .i64 (wrap64 (a0_0 - 1))] rfl zG ?_; (with_reducible refine (spec_l1In.calls ((rd_T64 l0_2 x3_2).f0) 0 (wrap64 (a0_0 - 1)) true _ A13.out).mono ?_); rintro e w' ⟨rfl, ⟨nd, rfl⟩⟩; refine ⟨_, rfl, ?_⟩) | (go_at_call 57; (with_reducible refine (spec_l1In.calls ((rd_T64 l0_2 x3_2).f3) 0 (wrap64 (a0_0 - 1)) true _ A15.out).mono ?_); rintro e w' ⟨rfl, ⟨nd, rfl⟩⟩) | (go_at_call 57; (with_reducible refine (spec_l1In.calls ((rd_T64 l0_2 x3_2).f2) 0 5 false _ A17.out).mono ?_); rintro e w' ⟨rfl, ⟨nd, rfl⟩⟩))
          go_ret
          exact ⟨zE, zB HB⟩
        ·replace c16 := Bool.eq_false_iff.mpr c16
         subst c16
         have H1 : (some false) = some r := by rw [if_neg (show ¬ (false = true) by decide)] at H; exact H
         clear H
         have H := H1
         clear H1
         obtain rfl := Option.some.inj H
         have hcz54_0 := bc0 BK159
         have hcz54_1 := bc1 BK159
         have hcz54_2 := bc2 BK159
         have hfz54_0 := bf BK159 0
         have hfz54_1 := bf BK159 1
         have hfz54_2 := bf BK159 2
         have p161 : 0 ≤ (x3_2 : Int) := zD
         have q161 : x3_2 < (l0_2.length : Int) := zD
         obtain ⟨ad161, e161, hx161_0, hx161_1, hx161_2, hx161_3⟩ := at_T64 HR0_2.out x3_2 p161 q161
         cases e161
         replace hx161_0 := hL HB hx161_0
         replace hx161_1 := hL HB hx161_1
         replace hx161_2 := hL HB hx161_2
         replace hx161_3 := hL HB hx161_3
         replace p161 := eq_true p161
         replace q161 := eq_true q161
         go_wp2_with (first | ((with_reducible refine gate_dst (N := 4) rfl ?_); (try (refine gate_guard (by rfl) ?_; dsimp only)); refine box_event ?hg (N := 4) ?hd (cs := #[.int .i64 0, .bool false, .int .i64 0, .int .i64 0]) (t := 64) ?hr ?_; (case hd => rfl); (case hg => rfl); (case hr => first | (go_simp; done) | (go_simp; rfl)); intro gb162 hg w55 hbox hb; have BK162 := Aside0.mk (hbox); have GW162 := gS HB hg; have GE162 := gS HB hg; replace HB := bS HB hb; have NB159_162 := nL BK159 hg; have NB162_159 := nR BK159 hg; replace BK159 := kB BK159 hb; clear hb hbox hg; have hnb56 := NB162_159.out; have hnc56 := NB159_162.out; have hcz57_0 := bc0 BK162; have hcz57_1 := bc1 BK162; have hcz57_2 := bc2 BK162; have hcz57_3 := bc3 BK162; have hfz57_0 := bf BK162 0; have hfz57_1 := bf BK162 1; have hfz57_2 := bf BK162 2; have hfz57_3 := bf BK162 3; have hcz58_0 := bc0 BK159; have hcz58_1 := bc1 BK159; have hcz58_2 := bc2 BK159; have hfz58_0 := bf BK159 0; have hfz58_1 := bf BK159 1; have hfz58_2 := bf BK159 2) | ((with_reducible refine gate_callee (f := 57) rfl ?_); refine goesL_ (some 40) rfl rfl Try.func57 (by kernel_rfl) rfl #[.int .i64 ((rd_T64 l0_2 x3_2).f0), .int .i64 0, .int .i64 (wrap64 (a0_0 - 1))] rfl zG ?_; (with_reducible refine (spec_l1In.calls ((rd_T64 l0_2 x3_2).f0) 0 (wrap64 (a0_0 - 1)) true _ A13.out).mono ?_); rintro e w' ⟨rfl, ⟨nd, rfl⟩⟩; refine ⟨_, rfl, ?_⟩) | (go_at_call 57; (with_reducible refine (spec_l1In.calls ((rd_T64 l0_2 x3_2).f3) 0 (wrap64 (a0_0 - 1)) false _ A15.out).mono ?_); rintro e w' ⟨rfl, ⟨nd, rfl⟩⟩))
         go_ret
         exact ⟨zE, zB HB⟩
       ·replace c14 := Bool.eq_false_iff.mpr c14
        subst c14
        have H1 : (some false) = some r := by rw [if_neg (show ¬ (false = true) by decide)] at H; exact H
        clear H
        have H := H1
        clear H1
        obtain rfl := Option.some.inj H
        have hcz59_0 := bc0 BK159
        have hcz59_1 := bc1 BK159
        have hcz59_2 := bc2 BK159
        have hfz59_0 := bf BK159 0
        have hfz59_1 := bf BK159 1
        have hfz59_2 := bf BK159 2
        have p161 : 0 ≤ (x3_2 : Int) := zD
        have q161 : x3_2 < (l0_2.length : Int) := zD
        obtain ⟨ad161, e161, hx161_0, hx161_1, hx161_2, hx161_3⟩ := at_T64 HR0_2.out x3_2 p161 q161
        cases e161
        replace hx161_0 := hL HB hx161_0
        replace hx161_1 := hL HB hx161_1
        replace hx161_2 := hL HB hx161_2
        replace hx161_3 := hL HB hx161_3
        replace p161 := eq_true p161
        replace q161 := eq_true q161
        go_wp2_with (first | ((with_reducible refine gate_dst (N := 4) rfl ?_); (try (refine gate_guard (by rfl) ?_; dsimp only)); refine box_event ?hg (N := 4) ?hd (cs := #[.int .i64 0, .bool false, .int .i64 0, .int .i64 0]) (t := 64) ?hr ?_; (case hd => rfl); (case hg => rfl); (case hr => first | (go_simp; done) | (go_simp; rfl)); intro gb162 hg w60 hbox hb; have BK162 := Aside0.mk (hbox); have GW162 := gS HB hg; have GE162 := gS HB hg; replace HB := bS HB hb; have NB159_162 := nL BK159 hg; have NB162_159 := nR BK159 hg; replace BK159 := kB BK159 hb; clear hb hbox hg; have hnb61 := NB162_159.out; have hnc61 := NB159_162.out; have hcz62_0 := bc0 BK162; have hcz62_1 := bc1 BK162; have hcz62_2 := bc2 BK162; have hcz62_3 := bc3 BK162; have hfz62_0 := bf BK162 0; have hfz62_1 := bf BK162 1; have hfz62_2 := bf BK162 2; have hfz62_3 := bf BK162 3; have hcz63_0 := bc0 BK159; have hcz63_1 := bc1 BK159; have hcz63_2 := bc2 BK159; have hfz63_0 := bf BK159 0; have hfz63_1 := bf BK159 1; have hfz63_2 := bf BK159 2) | ((with_reducible refine gate_callee (f := 57) rfl ?_); refine goesL_ (some 40) rfl rfl Try.func57 (by kernel_rfl) rfl #[.int .i64 ((rd_T64 l0_2 x3_2).f0), .int .i64 0, .int .i64 (wrap64 (a0_0 - 1))] rfl zG ?_; (with_reducible refine (spec_l1In.calls ((rd_T64 l0_2 x3_2).f0) 0 (wrap64 (a0_0 - 1)) false _ A13.out).mono ?_); rintro e w' ⟨rfl, ⟨nd, rfl⟩⟩; refine ⟨_, rfl, ?_⟩))
        go_ret
        exact ⟨zE, zB HB⟩
      ·rw [if_neg c11] at H
       have c11b0 : decide (x3_2 < (l0_2.length : Int)) = false := decide_eq_false c11
       clear c11
       obtain rfl := Option.some.inj H
       have hcz64_0 := bc0 BK159
       have hcz64_1 := bc1 BK159
       have hcz64_2 := bc2 BK159
       have hfz64_0 := bf BK159 0
       have hfz64_1 := bf BK159 1
       have hfz64_2 := bf BK159 2
       go_wp2
       go_ret
       exact ⟨zE, zB HB⟩

end Go.Proofs.Ytmenijbpglknbaa.PFnExactPairsOf
