-- WRITTEN by pp.py, this session's own wrapper around the print; not trusted: Lean checks it
import Derived.Test.YtmenijbpglknbaaPFnExactPairsOfx0
import Derived.Test.YtmenijbpglknbaaPFnExactPairsOfx2
import Derived.Test.YtmenijbpglknbaaPFnExactPairsOfx3
namespace Go.Proofs.Ytmenijbpglknbaa.PFnExactPairsOf
open Go.RowKit Go.Proofs.Ytmenijbpglknbaa.Hw Go.Proofs.YtmenijbpglknbaaW.PrintWords Go.Proofs.YtmenijbpglknbaaW.PrintLast Go.Proofs.YtmenijbpglknbaaW.PrintMore
attribute [local go_sem] max2_int min2_int max_two min_two max_three min_three max_four min_four   -- for this text's walks alone
set_option linter.unusedVariables false
set_option linter.unusedSimpArgs false
set_option linter.unusedSectionVars false

/-! ### spec_EqualInts: function 58 -/
def spec_EqualInts.l0 : Nat → List Int → List Int → Int → Option (Bool)
 | 0, _, _, _ => none
 | k + 1, x0, x1, x5 => if x5 < (x0.length : Int) then (if 0 ≤ x5 then (if x5 < (x1.length : Int) then (if (rd x0 x5) = (rd x1 x5) then (spec_EqualInts.l0 k x0 x1 (wrap64 (x5 + 1))) else (some false)) else (none)) else (none)) else (some true)
def spec_EqualInts.f (k : Nat) (l0 : List Int) (l1 : List Int) : Option (Bool) := if (l0.length : Int) = (l1.length : Int) then (spec_EqualInts.l0 k l0 l1 0) else (some false)
theorem spec_EqualInts.mono_l : ∀ k, (∀ y0 y1 y2, LeO (spec_EqualInts.l0 k y0 y1 y2) (spec_EqualInts.l0 (k + 1) y0 y1 y2))
 | 0 => fun _ _ _ r h => by simp [spec_EqualInts.l0] at h
 | k + 1 => by
  have ih0 := spec_EqualInts.mono_l k
  ·intro y0 y1 y2
   unfold spec_EqualInts.l0
   repeat' first
   | (with_reducible exact ih0 _ _ _)
   | (with_reducible exact LeO.refl _)
   | (with_reducible exact LeO.none _)
   | (with_reducible refine LeO.ite ?_ ?_)
   | (with_reducible refine LeO.bind ?_ (fun _ => ?_))
   | exact ih0 _ _ _
   | exact LeO.none _
   | refine LeO.ite ?_ ?_
   | refine LeO.bind ?_ (fun _ => ?_)
theorem spec_EqualInts.mono : ∀ a0 a1 k, LeO (spec_EqualInts.f k a0 a1) (spec_EqualInts.f (k + 1) a0 a1) := by
 intro a0 a1 k
 have ih0 := spec_EqualInts.mono_l k
 unfold spec_EqualInts.f
 repeat' first
   | (with_reducible exact ih0 _ _ _)
   | (with_reducible exact LeO.refl _)
   | (with_reducible exact LeO.none _)
   | (with_reducible refine LeO.ite ?_ ?_)
   | (with_reducible refine LeO.bind ?_ (fun _ => ?_))
   | exact ih0 _ _ _
   | exact LeO.none _
   | refine LeO.ite ?_ ?_
   | refine LeO.bind ?_ (fun _ => ?_)
set_option maxHeartbeats 8000000 in
set_option maxRecDepth 100000 in
theorem spec_EqualInts.calls (k : Nat) (A0 : Option Addr) (c0 : Nat) (l0 : List Int) (A1 : Option Addr) (c1 : Nat) (l1 : List Int) (r : Bool) (w : World) (hr0 : Kd.C (Kd.int .i64) w A0 l0.length l0) (hc0 : l0.length ≤ c0) (hr1 : Kd.C (Kd.int .i64) w A1 l1.length l1) (hc1 : l1.length ≤ c1) (h : spec_EqualInts.f k l0 l1 = some r) :
  Calls Try.prog 58 #[.slice A0 l0.length c0, .slice A1 l1.length c1] w fun e w' => e = .returned (.bool r) ∧ Drawn0 w w' := by
 have HR0 := Aside0.mk hr0
 have HC0 := Aside0.mk hc0
 clear hr0 hc0
 have HR1 := Aside0.mk hr1
 have HC1 := Aside0.mk hc1
 clear hr1 hc1
 have H : (if (l0.length : Int) = (l1.length : Int) then (spec_EqualInts.l0 k l0 l1 0) else (some false)) = some r := h
 clear h
 by_cases c3 : (l0.length : Int) = (l1.length : Int)
 ·rw [if_pos c3] at H
  have c3b0 : ((l0.length : Int) == (l1.length : Int)) = true := beq_iff_eq.mpr c3
  have c3b1 : ((l0.length : Int) != (l1.length : Int)) = false := bne_eq_false_iff_eq.mpr c3
  have c3b2 : (l0.length == l1.length) = true := by first | simpa using c3 | (simp at c3 ⊢; omega)
  clear c3
  have H' := Aside0.mk H
  clear H
  go_enter Try.func58, Try.ntmps58
  go_wp2
  repeat (go_quiet (fail); try go_wp2)
  go_loopg [5] k (fun kq v5 w' => ∃ (x5_1 : Int), v5 = .int .i64 x5_1 ∧ Aside0 (spec_EqualInts.l0 kq l0 l1 x5_1 = some r) ∧ Aside0 (kq ≤ k) ∧ Drawn0 w w')
  case atStart => exact ⟨(0), zF, H', ⟨Nat.le_refl _⟩, by repeat (first | exact Drawn0.refl _ | apply Drawn0.step)⟩
  case round =>
   clear H'
   try clear c1
   try clear p2
   try clear c3
   try clear c3b0
   try clear c3b1
   try clear c3b2
   obtain ⟨x5_1, rfl, HA, HK1, ⟨m1, rfl⟩⟩ := hrel
   cases gk with
   | zero => exact absurd HA.out (by simp [spec_EqualInts.l0])
   | succ k1 =>
    have H := HA.out
    clear HA
    simp only [spec_EqualInts.l0] at H
    by_cases c4 : x5_1 < (l0.length : Int)
    ·rw [if_pos c4] at H
     have c4b0 : decide (x5_1 < (l0.length : Int)) = true := decide_eq_true c4
     clear c4
     obtain ⟨c5, H⟩ := ifS H
     have c5b0 : decide (0 ≤ x5_1) = true := decide_eq_true c5
     clear c5
     obtain ⟨c6, H⟩ := ifS H
     have c6b0 : decide (x5_1 < (l1.length : Int)) = true := decide_eq_true c6
     clear c6
     by_cases c7 : (rd l0 x5_1) = (rd l1 x5_1)
     ·rw [if_pos c7] at H
      have c7b0 : ((rd l0 x5_1) == (rd l1 x5_1)) = true := beq_iff_eq.mpr c7
      have c7b1 : ((rd l0 x5_1) != (rd l1 x5_1)) = false := bne_eq_false_iff_eq.mpr c7
      clear c7
      have H' := Aside0.mk H
      clear H
      have p205 : 0 ≤ (x5_1 : Int) := zD
      have q205 : x5_1 < (l0.length : Int) := zD
      obtain ⟨ad205, e205, hx205_0⟩ := Kd.at_int HR0.out x5_1 p205 q205
      cases e205
      replace p205 := eq_true p205
      replace q205 := eq_true q205
      have p206 : 0 ≤ (x5_1 : Int) := zD
      have q206 : x5_1 < (l1.length : Int) := zD
      obtain ⟨ad206, e206, hx206_0⟩ := Kd.at_int HR1.out x5_1 p206 q206
      cases e206
      replace p206 := eq_true p206
      replace q206 := eq_true q206
      go_wp2
      repeat (go_quiet (fail); try go_wp2)
      go_roundg k1
      case measure => have := HK1.out; omega
      case rel => exact ⟨(wrap64 (x5_1 + 1)), zF, H', ⟨by have := HK1.out; omega⟩, by repeat (first | exact Drawn0.refl _ | apply Drawn0.step)⟩
     ·rw [if_neg c7] at H
      have c7b0 : ((rd l0 x5_1) == (rd l1 x5_1)) = false := beq_eq_false_iff_ne.mpr c7
      have c7b1 : ((rd l0 x5_1) != (rd l1 x5_1)) = true := bne_iff_ne.mpr c7
      obtain rfl := Option.some.inj H
      have p205 : 0 ≤ (x5_1 : Int) := zD
      have q205 : x5_1 < (l0.length : Int) := zD
      obtain ⟨ad205, e205, hx205_0⟩ := Kd.at_int HR0.out x5_1 p205 q205
      cases e205
      replace p205 := eq_true p205
      replace q205 := eq_true q205
      have p206 : 0 ≤ (x5_1 : Int) := zD
      have q206 : x5_1 < (l1.length : Int) := zD
      obtain ⟨ad206, e206, hx206_0⟩ := Kd.at_int HR1.out x5_1 p206 q206
      cases e206
      replace p206 := eq_true p206
      replace q206 := eq_true q206
      go_wp2
      repeat (go_quiet (fail); try go_wp2)
      go_ret
      exact ⟨by first | rfl | (simp; done) | (simp [*]; done), by repeat (first | exact Drawn0.refl _ | apply Drawn0.step)⟩
    ·rw [if_neg c4] at H
     have c4b0 : decide (x5_1 < (l0.length : Int)) = false := decide_eq_false c4
     clear c4
     obtain rfl := Option.some.inj H
     go_wp2
     repeat (go_quiet (fail); try go_wp2)
     go_ret
     exact ⟨by first | rfl | (simp; done) | (simp [*]; done), by repeat (first | exact Drawn0.refl _ | apply Drawn0.step)⟩
 ·rw [if_neg c3] at H
  have c3b0 : ((l0.length : Int) == (l1.length : Int)) = false := beq_eq_false_iff_ne.mpr c3
  have c3b1 : ((l0.length : Int) != (l1.length : Int)) = true := bne_iff_ne.mpr c3
  have c3b2 : (l0.length == l1.length) = false := by first | simpa using c3 | (simp at c3 ⊢; omega)
  obtain rfl := Option.some.inj H
  go_enter Try.func58, Try.ntmps58
  go_wp2
  repeat (go_quiet (fail); try go_wp2)
  go_ret
  exact ⟨by first | rfl | (simp; done) | (simp [*]; done), by repeat (first | exact Drawn0.refl _ | apply Drawn0.step)⟩

/-! ### spec_l14Has: function 38 -/
def spec_l14Has.l0 : Nat → List (List Int) → List Int → Int → Option (Bool)
 | 0, _, _, _ => none
 | k + 1, x0, x1, x5 => if x5 < (x0.length : Int) then (if 0 ≤ x5 then ((spec_EqualInts.f k (rd_L4 x0 x5) x1).bind fun t208 => (if t208 = true then (some true) else (spec_l14Has.l0 k x0 x1 (wrap64 (x5 + 1))))) else (none)) else (some false)
def spec_l14Has.f (k : Nat) (l0 : List (List Int)) (l1 : List Int) : Option (Bool) := spec_l14Has.l0 k l0 l1 0
theorem spec_l14Has.mono_l : ∀ k, (∀ y0 y1 y2, LeO (spec_l14Has.l0 k y0 y1 y2) (spec_l14Has.l0 (k + 1) y0 y1 y2))
 | 0 => fun _ _ _ r h => by simp [spec_l14Has.l0] at h
 | k + 1 => by
  have ih0 := spec_l14Has.mono_l k
  ·intro y0 y1 y2
   unfold spec_l14Has.l0
   repeat' first
   | (with_reducible exact ih0 _ _ _)
   | (with_reducible exact spec_EqualInts.mono _ _ _)
   | (with_reducible exact LeO.refl _)
   | (with_reducible exact LeO.none _)
   | (with_reducible refine LeO.ite ?_ ?_)
   | (with_reducible refine LeO.bind ?_ (fun _ => ?_))
   | exact ih0 _ _ _
   | exact spec_EqualInts.mono _ _ _
   | exact LeO.none _
   | refine LeO.ite ?_ ?_
   | refine LeO.bind ?_ (fun _ => ?_)
theorem spec_l14Has.mono : ∀ a0 a1 k, LeO (spec_l14Has.f k a0 a1) (spec_l14Has.f (k + 1) a0 a1) := by
 intro a0 a1 k
 have ih0 := spec_l14Has.mono_l k
 unfold spec_l14Has.f
 repeat' first
   | (with_reducible exact ih0 _ _ _)
   | (with_reducible exact spec_EqualInts.mono _ _ _)
   | (with_reducible exact LeO.refl _)
   | (with_reducible exact LeO.none _)
   | (with_reducible refine LeO.ite ?_ ?_)
   | (with_reducible refine LeO.bind ?_ (fun _ => ?_))
   | exact ih0 _ _ _
   | exact spec_EqualInts.mono _ _ _
   | exact LeO.none _
   | refine LeO.ite ?_ ?_
   | refine LeO.bind ?_ (fun _ => ?_)
set_option maxHeartbeats 8000000 in
set_option maxRecDepth 100000 in
theorem spec_l14Has.calls (k : Nat) (A0 : Option Addr) (c0 : Nat) (l0 : List (List Int)) (A1 : Option Addr) (c1 : Nat) (l1 : List Int) (r : Bool) (w : World) (hr0 : Kd.C (Kd.slice 3 (Kd.int .i64)) w A0 l0.length l0) (hc0 : l0.length ≤ c0) (hr1 : Kd.C (Kd.int .i64) w A1 l1.length l1) (hc1 : l1.length ≤ c1) (h : spec_l14Has.f k l0 l1 = some r) :
  Calls Try.prog 38 #[.slice A0 l0.length c0, .slice A1 l1.length c1] w fun e w' => e = .returned (.bool r) ∧ Drawn0 w w' := by
 have HR0 := Aside0.mk hr0
 have HC0 := Aside0.mk hc0
 clear hr0 hc0
 have HR1 := Aside0.mk hr1
 have HC1 := Aside0.mk hc1
 clear hr1 hc1
 have H : (spec_l14Has.l0 k l0 l1 0) = some r := h
 clear h
 have H' := Aside0.mk H
 clear H
 go_enter Try.func38, Try.ntmps38
 go_wp2
 go_loopg [5] k (fun kq v5 w' => ∃ (x5_1 : Int), v5 = .int .i64 x5_1 ∧ Aside0 (spec_l14Has.l0 kq l0 l1 x5_1 = some r) ∧ Aside0 (kq ≤ k) ∧ Drawn0 w w')
 case atStart => exact ⟨(0), zF, H', ⟨Nat.le_refl _⟩, by repeat (first | exact Drawn0.refl _ | apply Drawn0.step)⟩
 case round =>
  clear H'
  try clear c1
  try clear p2
  obtain ⟨x5_1, rfl, HA, HK1, ⟨m1, rfl⟩⟩ := hrel
  cases gk with
  | zero => exact absurd HA.out (by simp [spec_l14Has.l0])
  | succ k1 =>
   have H := HA.out
   clear HA
   simp only [spec_l14Has.l0] at H
   by_cases c3 : x5_1 < (l0.length : Int)
   ·rw [if_pos c3] at H
    have c3b0 : decide (x5_1 < (l0.length : Int)) = true := decide_eq_true c3
    clear c3
    obtain ⟨c4, H⟩ := ifS H
    have c4b0 : decide (0 ≤ x5_1) = true := decide_eq_true c4
    clear c4
    obtain ⟨t208, A5, H⟩ := bindS H
    by_cases c6 : t208 = true
    ·subst c6
     have H1 : (some true) = some r := by rw [if_pos rfl] at H; exact H
     clear H
     have H := H1
     clear H1
     obtain rfl := Option.some.inj H
     have p207 : 0 ≤ (x5_1 : Int) := zD
     have q207 : x5_1 < (l0.length : Int) := zD
     obtain ⟨ad207, A207_0, c207_0, e207, hx207_0, hl207_0, hi207_0⟩ := at_L4 HR0.out x5_1 p207 q207
     cases e207
     have HR207_0 := Aside0.mk hi207_0
     have HC207_0 := Aside0.mk hl207_0
     clear hi207_0 hl207_0
     replace p207 := eq_true p207
     replace q207 := eq_true q207
     go_wp2_with (first | ((with_reducible refine gate_callee (f := 58) rfl ?_); refine goesL_ (some 17) rfl rfl Try.func58 (by kernel_rfl) rfl #[.slice A207_0 (rd_L4 l0 x5_1).length c207_0, .slice A1 l1.length c1] rfl zG ?_; (with_reducible refine (spec_EqualInts.calls k1 _ _ (rd_L4 l0 x5_1) _ _ l1 true _ ?side1 ?side2 ?side3 ?side4 A5.out).mono ?_); (case side1 => exact cT HR207_0); (case side2 => exact HC207_0.out); (case side3 => exact cT HR1); (case side4 => exact HC1.out); rintro e w' ⟨rfl, ⟨nd, rfl⟩⟩; refine ⟨_, rfl, ?_⟩))
     go_ret
     exact ⟨by first | rfl | (simp; done) | (simp [*]; done), by repeat (first | exact Drawn0.refl _ | apply Drawn0.step)⟩
    ·replace c6 := Bool.eq_false_iff.mpr c6
     subst c6
     have H1 : (spec_l14Has.l0 k1 l0 l1 (wrap64 (x5_1 + 1))) = some r := by rw [if_neg (show ¬ (false = true) by decide)] at H; exact H
     clear H
     have H := H1
     clear H1
     have H' := Aside0.mk H
     clear H
     have p207 : 0 ≤ (x5_1 : Int) := zD
     have q207 : x5_1 < (l0.length : Int) := zD
     obtain ⟨ad207, A207_0, c207_0, e207, hx207_0, hl207_0, hi207_0⟩ := at_L4 HR0.out x5_1 p207 q207
     cases e207
     have HR207_0 := Aside0.mk hi207_0
     have HC207_0 := Aside0.mk hl207_0
     clear hi207_0 hl207_0
     replace p207 := eq_true p207
     replace q207 := eq_true q207
     go_wp2_with (first | ((with_reducible refine gate_callee (f := 58) rfl ?_); refine goesL_ (some 17) rfl rfl Try.func58 (by kernel_rfl) rfl #[.slice A207_0 (rd_L4 l0 x5_1).length c207_0, .slice A1 l1.length c1] rfl zG ?_; (with_reducible refine (spec_EqualInts.calls k1 _ _ (rd_L4 l0 x5_1) _ _ l1 false _ ?side1 ?side2 ?side3 ?side4 A5.out).mono ?_); (case side1 => exact cT HR207_0); (case side2 => exact HC207_0.out); (case side3 => exact cT HR1); (case side4 => exact HC1.out); rintro e w' ⟨rfl, ⟨nd, rfl⟩⟩; refine ⟨_, rfl, ?_⟩))
     go_roundg k1
     case measure => have := HK1.out; omega
     case rel => exact ⟨(wrap64 (x5_1 + 1)), zF, H', ⟨by have := HK1.out; omega⟩, by repeat (first | exact Drawn0.refl _ | apply Drawn0.step)⟩
   ·rw [if_neg c3] at H
    have c3b0 : decide (x5_1 < (l0.length : Int)) = false := decide_eq_false c3
    clear c3
    obtain rfl := Option.some.inj H
    go_wp2
    go_ret
    exact ⟨by first | rfl | (simp; done) | (simp [*]; done), by repeat (first | exact Drawn0.refl _ | apply Drawn0.step)⟩

/-! ### spec_PairsOf: function 10 -/
mutual
def spec_PairsOf.j0 : Nat → List (List Int) → Bool → Int → List Bool → List (S64) → Int → List Bool → List (S64) → Option ((List (List Int)))
 | 0, _, _, _, _, _, _, _, _ => none
 | k + 1, x5, x17, x210000, x210001, x210002, x211000, x211001, x211002 => if x17 = true then (some x5) else (if x5.length < 5864062014805 then (spec_PairsOf.l0 k (x5 ++ [(([0, 0] : List Int))]) 0 x210000 x210001 x210002 x211000 x211001 x211002) else (none))
def spec_PairsOf.l0 : Nat → List (List Int) → Int → Int → List Bool → List (S64) → Int → List Bool → List (S64) → Option ((List (List Int)))
 | 0, _, _, _, _, _, _, _, _ => none
 | k + 1, x5, x6, x210000, x210001, x210002, x211000, x211001, x211002 => if x6 < (x5.length : Int) then (if 0 ≤ x6 then (if 0 < ((rd_L4 x5 x6).length : Int) then (if 1 < ((rd_L4 x5 x6).length : Int) then ((spec_NextPairs.f k x210000 x210001 x210002 x211000 x211001 x211002 (rd (rd_L4 x5 x6) 0) (rd (rd_L4 x5 x6) 1)).bind fun t226 => (spec_PairsOf.l1 k x5 x6 t226 0 x210000 x210001 x210002 x211000 x211001 x211002)) else (none)) else (none)) else (none)) else (some x5)
def spec_PairsOf.l1 : Nat → List (List Int) → Int → List (List Int) → Int → Int → List Bool → List (S64) → Int → List Bool → List (S64) → Option ((List (List Int)))
 | 0, _, _, _, _, _, _, _, _, _, _ => none
 | k + 1, x5, x6, x7, x8, x210000, x210001, x210002, x211000, x211001, x211002 => if x8 < (x7.length : Int) then (if 0 ≤ x8 then ((spec_l14Has.f k x5 (rd_L4 x7 x8)).bind fun t230 => (if t230 = true then (spec_PairsOf.l1 k x5 x6 x7 (wrap64 (x8 + 1)) x210000 x210001 x210002 x211000 x211001 x211002) else (if x5.length < 5864062014805 then (spec_PairsOf.l1 k (x5 ++ [rd_L4 x7 x8]) x6 x7 (wrap64 (x8 + 1)) x210000 x210001 x210002 x211000 x211001 x211002) else (none)))) else (none)) else (spec_PairsOf.l0 k x5 (wrap64 (x6 + 1)) x210000 x210001 x210002 x211000 x211001 x211002)
end
def spec_PairsOf.f (k : Nat) (a0_0 : Int) (l0_1 : List Bool) (l0_2 : List (S64)) (a1_0 : Int) (l1_1 : List Bool) (l1_2 : List (S64)) : Option ((List (List Int))) := (some (([] : List (List Int)) : List (List Int))).bind fun y211 => ((spec_IsMachine.f k a0_0 l0_1 l0_2).bind fun t214 => (if t214 = true then ((spec_IsMachine.f k a1_0 l1_1 l1_2).bind fun t215 => (spec_PairsOf.j0 k y211 (!t215) a0_0 l0_1 l0_2 a1_0 l1_1 l1_2)) else (spec_PairsOf.j0 k y211 true a0_0 l0_1 l0_2 a1_0 l1_1 l1_2)))
theorem spec_PairsOf.mono_l : ∀ k, (∀ y0 y1 y2 y3 y4 y5 y6 y7, LeO (spec_PairsOf.j0 k y0 y1 y2 y3 y4 y5 y6 y7) (spec_PairsOf.j0 (k + 1) y0 y1 y2 y3 y4 y5 y6 y7)) ∧ (∀ y0 y1 y2 y3 y4 y5 y6 y7, LeO (spec_PairsOf.l0 k y0 y1 y2 y3 y4 y5 y6 y7) (spec_PairsOf.l0 (k + 1) y0 y1 y2 y3 y4 y5 y6 y7)) ∧ (∀ y0 y1 y2 y3 y4 y5 y6 y7 y8 y9, LeO (spec_PairsOf.l1 k y0 y1 y2 y3 y4 y5 y6 y7 y8 y9) (spec_PairsOf.l1 (k + 1) y0 y1 y2 y3 y4 y5 y6 y7 y8 y9))
 | 0 => ⟨fun _ _ _ _ _ _ _ _ r h => by simp [spec_PairsOf.j0] at h, fun _ _ _ _ _ _ _ _ r h => by simp [spec_PairsOf.l0] at h, fun _ _ _ _ _ _ _ _ _ _ r h => by simp [spec_PairsOf.l1] at h⟩
 | k + 1 => by
  obtain ⟨ih0, ih1, ih2⟩ := spec_PairsOf.mono_l k
  refine ⟨?_, ?_, ?_⟩
  ·intro y0 y1 y2 y3 y4 y5 y6 y7
   unfold spec_PairsOf.j0
   repeat' first
   | (with_reducible exact ih0 _ _ _ _ _ _ _ _)
   | (with_reducible exact ih1 _ _ _ _ _ _ _ _)
   | (with_reducible exact ih2 _ _ _ _ _ _ _ _ _ _)
   | (with_reducible exact spec_IsMachine.mono _ _ _ _)
   | (with_reducible exact spec_NextPairs.mono _ _ _ _ _ _ _ _ _)
   | (with_reducible exact spec_l14Has.mono _ _ _)
   | (with_reducible exact LeO.refl _)
   | (with_reducible exact LeO.none _)
   | (with_reducible refine LeO.ite ?_ ?_)
   | (with_reducible refine LeO.bind ?_ (fun _ => ?_))
   | exact ih0 _ _ _ _ _ _ _ _
   | exact ih1 _ _ _ _ _ _ _ _
   | exact ih2 _ _ _ _ _ _ _ _ _ _
   | exact spec_IsMachine.mono _ _ _ _
   | exact spec_NextPairs.mono _ _ _ _ _ _ _ _ _
   | exact spec_l14Has.mono _ _ _
   | exact LeO.none _
   | refine LeO.ite ?_ ?_
   | refine LeO.bind ?_ (fun _ => ?_)
  ·intro y0 y1 y2 y3 y4 y5 y6 y7
   unfold spec_PairsOf.l0
   repeat' first
   | (with_reducible exact ih0 _ _ _ _ _ _ _ _)
   | (with_reducible exact ih1 _ _ _ _ _ _ _ _)
   | (with_reducible exact ih2 _ _ _ _ _ _ _ _ _ _)
   | (with_reducible exact spec_IsMachine.mono _ _ _ _)
   | (with_reducible exact spec_NextPairs.mono _ _ _ _ _ _ _ _ _)
   | (with_reducible exact spec_l14Has.mono _ _ _)
   | (with_reducible exact LeO.refl _)
   | (with_reducible exact LeO.none _)
   | (with_reducible refine LeO.ite ?_ ?_)
   | (with_reducible refine LeO.bind ?_ (fun _ => ?_))
   | exact ih0 _ _ _ _ _ _ _ _
   | exact ih1 _ _ _ _ _ _ _ _
   | exact ih2 _ _ _ _ _ _ _ _ _ _
   | exact spec_IsMachine.mono _ _ _ _
   | exact spec_NextPairs.mono _ _ _ _ _ _ _ _ _
   | exact spec_l14Has.mono _ _ _
   | exact LeO.none _
   | refine LeO.ite ?_ ?_
   | refine LeO.bind ?_ (fun _ => ?_)
  ·intro y0 y1 y2 y3 y4 y5 y6 y7 y8 y9
   unfold spec_PairsOf.l1
   repeat' first
   | (with_reducible exact ih0 _ _ _ _ _ _ _ _)
   | (with_reducible exact ih1 _ _ _ _ _ _ _ _)
   | (with_reducible exact ih2 _ _ _ _ _ _ _ _ _ _)
   | (with_reducible exact spec_IsMachine.mono _ _ _ _)
   | (with_reducible exact spec_NextPairs.mono _ _ _ _ _ _ _ _ _)
   | (with_reducible exact spec_l14Has.mono _ _ _)
   | (with_reducible exact LeO.refl _)
   | (with_reducible exact LeO.none _)
   | (with_reducible refine LeO.ite ?_ ?_)
   | (with_reducible refine LeO.bind ?_ (fun _ => ?_))
   | exact ih0 _ _ _ _ _ _ _ _
   | exact ih1 _ _ _ _ _ _ _ _
   | exact ih2 _ _ _ _ _ _ _ _ _ _
   | exact spec_IsMachine.mono _ _ _ _
   | exact spec_NextPairs.mono _ _ _ _ _ _ _ _ _
   | exact spec_l14Has.mono _ _ _
   | exact LeO.none _
   | refine LeO.ite ?_ ?_
   | refine LeO.bind ?_ (fun _ => ?_)
theorem spec_PairsOf.mono : ∀ a0 a1 a2 a3 a4 a5 k, LeO (spec_PairsOf.f k a0 a1 a2 a3 a4 a5) (spec_PairsOf.f (k + 1) a0 a1 a2 a3 a4 a5) := by
 intro a0 a1 a2 a3 a4 a5 k
 obtain ⟨ih0, ih1, ih2⟩ := spec_PairsOf.mono_l k
 unfold spec_PairsOf.f
 repeat' first
   | (with_reducible exact ih0 _ _ _ _ _ _ _ _)
   | (with_reducible exact ih1 _ _ _ _ _ _ _ _)
   | (with_reducible exact ih2 _ _ _ _ _ _ _ _ _ _)
   | (with_reducible exact spec_IsMachine.mono _ _ _ _)
   | (with_reducible exact spec_NextPairs.mono _ _ _ _ _ _ _ _ _)
   | (with_reducible exact spec_l14Has.mono _ _ _)
   | (with_reducible exact LeO.refl _)
   | (with_reducible exact LeO.none _)
   | (with_reducible refine LeO.ite ?_ ?_)
   | (with_reducible refine LeO.bind ?_ (fun _ => ?_))
   | exact ih0 _ _ _ _ _ _ _ _
   | exact ih1 _ _ _ _ _ _ _ _
   | exact ih2 _ _ _ _ _ _ _ _ _ _
   | exact spec_IsMachine.mono _ _ _ _
   | exact spec_NextPairs.mono _ _ _ _ _ _ _ _ _
   | exact spec_l14Has.mono _ _ _
   | exact LeO.none _
   | refine LeO.ite ?_ ?_
   | refine LeO.bind ?_ (fun _ => ?_)
def spec_PairsOf.T8 : Bool × List (List Nat × List Nat) := (true, [([], []), ([], []), ([], []), ([], []), ([2, 3], [2, 3]), ([4], [4]), ([5], [5]), ([6], [6]), ([], []), ([], []), ([8, 9], [8, 9]), ([10], [10]), ([11], [11]), ([12], [12]), ([0, 1, 7, 13], [0, 1, 7, 13]), ([14, 14, 0, 1, 2, 3, 4, 5, 6, 7, 8, 9, 10, 11, 12, 13, 14], [14])])
def spec_PairsOf.B8 : List Nat := [0, 0, 0, 0, 12, 28, 60, 124, 0, 0, 768, 1792, 3840, 7936, 16383, 32767]
theorem spec_PairsOf.tab8 : rtab .any (opsOf Try.f10 8) = spec_PairsOf.T8 := by kernel_rfl
theorem spec_PairsOf.bits8 : waitsOk spec_PairsOf.T8.2 spec_PairsOf.B8 = true := by kernel_rfl
set_option maxHeartbeats 8000000 in
set_option maxRecDepth 100000 in
theorem spec_PairsOf.calls (k : Nat) (a0_0 : Int) (A0_1 : Option Addr) (c0_1 : Nat) (l0_1 : List Bool) (A0_2 : Option Addr) (c0_2 : Nat) (l0_2 : List (S64)) (a1_0 : Int) (A1_1 : Option Addr) (c1_1 : Nat) (l1_1 : List Bool) (A1_2 : Option Addr) (c1_2 : Nat) (l1_2 : List (S64)) (r : List (List Int)) (w : World) (hr0_1 : Kd.C Kd.bool w A0_1 l0_1.length l0_1) (hc0_1 : l0_1.length ≤ c0_1) (hr0_2 : Kd.C k64 w A0_2 l0_2.length l0_2) (hc0_2 : l0_2.length ≤ c0_2) (hr1_1 : Kd.C Kd.bool w A1_1 l1_1.length l1_1) (hc1_1 : l1_1.length ≤ c1_1) (hr1_2 : Kd.C k64 w A1_2 l1_2.length l1_2) (hc1_2 : l1_2.length ≤ c1_2) (h : spec_PairsOf.f k a0_0 l0_1 l0_2 a1_0 l1_1 l1_2 = some r) :
  Calls Try.prog 10 #[.agg #[.int .i64 a0_0, .slice A0_1 l0_1.length c0_1, .slice A0_2 l0_2.length c0_2], .agg #[.int .i64 a1_0, .slice A1_1 l1_1.length c1_1, .slice A1_2 l1_2.length c1_2]] w fun e w' => ∃ v0_ : Value, e = .returned (v0_) ∧ Kd.N (Kd.slice 3 (Kd.int .i64)) 38 w' w.heap.size (fun k_ => (w.heap.size ≤ k_)) v0_ r ∧ Below w.heap.size w w' := by
 have hu31 := Try.underlying31
 have HR0_1 := Aside0.mk hr0_1
 have HC0_1 := Aside0.mk hc0_1
 clear hr0_1 hc0_1
 have HR0_2 := Aside0.mk hr0_2
 have HC0_2 := Aside0.mk hc0_2
 clear hr0_2 hc0_2
 have HR1_1 := Aside0.mk hr1_1
 have HC1_1 := Aside0.mk hc1_1
 clear hr1_1 hc1_1
 have HR1_2 := Aside0.mk hr1_2
 have HC1_2 := Aside0.mk hc1_2
 clear hr1_2 hc1_2
 have HB := Aside0.mk (Below.refl w.heap.size w)
 have H : ((some (([] : List (List Int)) : List (List Int))).bind fun y211 => ((spec_IsMachine.f k a0_0 l0_1 l0_2).bind fun t214 => (if t214 = true then ((spec_IsMachine.f k a1_0 l1_1 l1_2).bind fun t215 => (spec_PairsOf.j0 k y211 (!t215) a0_0 l0_1 l0_2 a1_0 l1_1 l1_2)) else (spec_PairsOf.j0 k y211 true a0_0 l0_1 l0_2 a1_0 l1_1 l1_2)))) = some r := h
 clear h
 obtain ⟨y211, hy211⟩ : ∃ y_ : List (List Int), y_ = (([] : List (List Int))) := ⟨_, rfl⟩
 replace H : ((spec_IsMachine.f k a0_0 l0_1 l0_2).bind fun t214 => (if t214 = true then ((spec_IsMachine.f k a1_0 l1_1 l1_2).bind fun t215 => (spec_PairsOf.j0 k y211 (!t215) a0_0 l0_1 l0_2 a1_0 l1_1 l1_2)) else (spec_PairsOf.j0 k y211 true a0_0 l0_1 l0_2 a1_0 l1_1 l1_2))) = some r := by first | (rw [hy211]; with_reducible exact H) | (have H2_ := (Option.bind_some _ _).symm.trans H; rw [hy211]; with_reducible exact H2_) | (have H2_ := (Option.bind_some _ _).symm.trans H; with_reducible exact H2_) | with_reducible exact H | (rw [hy211]; exact H) | exact H
 have Ny211 := Aside0.mk hy211
 clear hy211
 have HC3 := Aside0.mk H
 clear H
 go_enter Try.func10, Try.ntmps10
 go_upto_region 2 with (first | ((with_reducible refine gate_dst (N := 2) rfl ?_); refine box_event ?hg (N := 2) ?hd (cs := #[.int .i64 a0_0, .slice A0_1 l0_1.length c0_1, .slice A0_2 l0_2.length c0_2]) (t := 31) ?hr ?_; (case hd => rfl); (case hg => rfl); (case hr => first | (go_simp; done) | (go_simp; rfl)); intro gb209 hg w4 hbox hb; have BK209 := Aside0.mk (hbox); have GW209 := gS HB hg; have GE209 := gS HB hg; replace HB := bS HB hb; clear hb hbox hg) | ((with_reducible refine gate_dst (N := 3) rfl ?_); refine box_event ?hg (N := 3) ?hd (cs := #[.int .i64 a1_0, .slice A1_1 l1_1.length c1_1, .slice A1_2 l1_2.length c1_2]) (t := 31) ?hr ?_; (case hd => rfl); (case hg => rfl); (case hr => first | (go_simp; done) | (go_simp; rfl)); intro gb210 hg w5 hbox hb; have BK210 := Aside0.mk (hbox); have GW210 := gS HB hg; have GE210 := gS HB hg; replace HB := bS HB hb; have NB209_210 := nL BK209 hg; have NB210_209 := nR BK209 hg; replace BK209 := kB BK209 hb; clear hb hbox hg) | ((with_reducible refine gate_dst (N := 9) rfl ?_); refine Kd.N_lit (Kd.slice 3 (Kd.int .i64)) _ 38 ?hg (N' := 9) ?hd (xs := ([] : List (List Int))) (inner := []) (ok := (fun k_ => (w.heap.size ≤ k_) ∧ k_ ≠ gb209 ∧ k_ ≠ gb210)) (okp := (fun k_ => (w.heap.size ≤ k_) ∧ k_ ≠ gb209 ∧ k_ ≠ gb210)) ?hr ?hp (fun _ hk => hk) ((show ∀ k_, w5.heap.size ≤ k_ → (fun k_ => (w.heap.size ≤ k_) ∧ k_ ≠ gb209 ∧ k_ ≠ gb210) k_ from fun k_ hk => ⟨(Nat.le_trans (below_size (zB HB)) hk), Kd.freshB (g := gb209) (o := .cells #[.int .i64 a0_0, .slice A0_1 l0_1.length c0_1, .slice A0_2 l0_2.length c0_2] 31 (0, 0)) (zK BK209) k_ hk, Kd.freshB (g := gb210) (o := .cells #[.int .i64 a1_0, .slice A1_1 l1_1.length c1_1, .slice A1_2 l1_2.length c1_2] 31 (0, 0)) (zK BK210) k_ hk⟩) _ (Nat.le_refl _)) (Below.refl _ _) (Nat.le_refl _) (by simp) ?_; (case hd => rfl); (case hg => rfl); (case hr => first | (go_simp; done) | (go_simp; rfl)); (case hp => exact (Reps.none _ _)); intro v212 w6 ho7 hb hg_ hnew_; clear hg_ hnew_; (first | rw [← Ny211.out] at ho7 | (simp only [Int.reduceToNat] at ho7; rw [← Ny211.out] at ho7)); have HO213 := Aside0.mk (Kd.N_lower ho7 (below_size (zB HB))); replace BK209 := kB BK209 hb; replace BK210 := kB BK210 hb; replace HB := bS HB hb; clear hb ho7))
 (try simp only [Act.put, List.setIfInBounds_toArray, List.set_cons_zero, List.set_cons_succ])
 go_cut [17] (fun v17 wc => ∃ (kq : Nat) (x17_2 : Bool), v17 = .bool x17_2 ∧ Aside0 (spec_PairsOf.j0 kq y211 x17_2 a0_0 l0_1 l0_2 a1_0 l1_1 l1_2 = some r) ∧ Aside0 (kq ≤ k) ∧ Aside0 (Kd.N (Kd.slice 3 (Kd.int .i64)) 38 wc w.heap.size (fun k_ => (w.heap.size ≤ k_) ∧ k_ ≠ gb209 ∧ k_ ≠ gb210) v212 y211) ∧ Aside0 (wc.heap[gb209]? = some (.cells #[.int .i64 a0_0, (.slice A0_1 l0_1.length c0_1), (.slice A0_2 l0_2.length c0_2)] 31 (0, 0))) ∧ Aside0 (wc.heap[gb210]? = some (.cells #[.int .i64 a1_0, (.slice A1_1 l1_1.length c1_1), (.slice A1_2 l1_2.length c1_2)] 31 (0, 0))) ∧ Aside0 (Below w.heap.size w wc))
 case first =>
  have H := HC3.out
  clear HC3
  obtain ⟨t214, A8, H⟩ := bindS H
  by_cases c9 : t214 = true
  ·subst c9
   have H1 : ((spec_IsMachine.f k a1_0 l1_1 l1_2).bind fun t215 => (spec_PairsOf.j0 k y211 (!t215) a0_0 l0_1 l0_2 a1_0 l1_1 l1_2)) = some r := by rw [if_pos rfl] at H; exact H
   clear H
   have H := H1
   clear H1
   obtain ⟨t215, A10, H⟩ := bindS H
   have H' := Aside0.mk H
   clear H
   have hnb11 := NB209_210.out
   have hnc11 := NB210_209.out
   have hcz12_0 := bc0 BK209
   have hcz12_1 := bc1 BK209
   have hcz12_2 := bc2 BK209
   have hfz12_0 := bf BK209 0
   have hfz12_1 := bf BK209 1
   have hfz12_2 := bf BK209 2
   go_wp2_with (first | ((with_reducible refine gate_callee (f := 36) rfl ?_); refine goesL_ (some 11) rfl rfl Try.func36 (by kernel_rfl) rfl #[.agg #[.int .i64 a0_0, .slice A0_1 l0_1.length c0_1, .slice A0_2 l0_2.length c0_2]] rfl zG ?_; (with_reducible refine (spec_IsMachine.calls k a0_0 _ _ l0_1 _ _ l0_2 true _ ?side1 ?side2 ?side3 ?side4 A8.out).mono ?_); (case side1 => exact cS HR0_1 HB); (case side2 => exact HC0_1.out); (case side3 => exact cS HR0_2 HB); (case side4 => exact HC0_2.out); rintro e w13 ⟨rfl, hb⟩; refine ⟨_, rfl, ?_⟩; replace HO213 := Aside0.mk (Kd.N_below (by (with_reducible repeat (first | apply Kd.N_alloc | apply Kd.N_drewN | apply Kd.N_drew)); exact HO213.out) hb); replace BK209 := kB BK209 hb; replace BK210 := kB BK210 hb; replace HB := bS HB hb; (try clear hb); have hcz14_0 := bc0 BK210; have hcz14_1 := bc1 BK210; have hcz14_2 := bc2 BK210; have hfz14_0 := bf BK210 0; have hfz14_1 := bf BK210 1; have hfz14_2 := bf BK210 2) | (go_at_call 36; (with_reducible refine (spec_IsMachine.calls k a1_0 _ _ l1_1 _ _ l1_2 t215 _ ?side1 ?side2 ?side3 ?side4 A10.out).mono ?_); (case side1 => exact cS HR1_1 HB); (case side2 => exact HC1_1.out); (case side3 => exact cS HR1_2 HB); (case side4 => exact HC1_2.out); rintro e w15 ⟨rfl, hb⟩; replace HO213 := Aside0.mk (Kd.N_below (by (with_reducible repeat (first | apply Kd.N_alloc | apply Kd.N_drewN | apply Kd.N_drew)); exact HO213.out) hb); replace BK209 := kB BK209 hb; replace BK210 := kB BK210 hb; replace HB := bS HB hb; (try clear hb)))
   go_meet
   case rel => exact ⟨_, (!t215), zF, H', ⟨by first | omega | exact Nat.le_refl _⟩, ⟨by (with_reducible repeat (first | apply Kd.N_alloc | apply Kd.N_drewN | apply Kd.N_drew)); exact HO213.out⟩, ⟨zK BK209⟩, ⟨zK BK210⟩, ⟨zB HB⟩⟩
  ·replace c9 := Bool.eq_false_iff.mpr c9
   subst c9
   have H1 : (spec_PairsOf.j0 k y211 true a0_0 l0_1 l0_2 a1_0 l1_1 l1_2) = some r := by rw [if_neg (show ¬ (false = true) by decide)] at H; exact H
   clear H
   have H := H1
   clear H1
   have H' := Aside0.mk H
   clear H
   have hnb16 := NB209_210.out
   have hnc16 := NB210_209.out
   have hcz17_0 := bc0 BK209
   have hcz17_1 := bc1 BK209
   have hcz17_2 := bc2 BK209
   have hfz17_0 := bf BK209 0
   have hfz17_1 := bf BK209 1
   have hfz17_2 := bf BK209 2
   go_wp2_with (first | ((with_reducible refine gate_callee (f := 36) rfl ?_); refine goesL_ (some 11) rfl rfl Try.func36 (by kernel_rfl) rfl #[.agg #[.int .i64 a0_0, .slice A0_1 l0_1.length c0_1, .slice A0_2 l0_2.length c0_2]] rfl zG ?_; (with_reducible refine (spec_IsMachine.calls k a0_0 _ _ l0_1 _ _ l0_2 false _ ?side1 ?side2 ?side3 ?side4 A8.out).mono ?_); (case side1 => exact cS HR0_1 HB); (case side2 => exact HC0_1.out); (case side3 => exact cS HR0_2 HB); (case side4 => exact HC0_2.out); rintro e w18 ⟨rfl, hb⟩; refine ⟨_, rfl, ?_⟩; replace HO213 := Aside0.mk (Kd.N_below (by (with_reducible repeat (first | apply Kd.N_alloc | apply Kd.N_drewN | apply Kd.N_drew)); exact HO213.out) hb); replace BK209 := kB BK209 hb; replace BK210 := kB BK210 hb; replace HB := bS HB hb; (try clear hb)))
   go_meet
   case rel => exact ⟨_, (true), zF, H', ⟨by first | omega | exact Nat.le_refl _⟩, ⟨by (with_reducible repeat (first | apply Kd.N_alloc | apply Kd.N_drewN | apply Kd.N_drew)); exact HO213.out⟩, ⟨zK BK209⟩, ⟨zK BK210⟩, ⟨zB HB⟩⟩
 case rest =>
  clear HC3
  try clear c1
  try clear p2
  try clear c3
  try clear c9
  try clear c10
  try clear c11
  try clear c16
  try clear hcz12_0
  try clear hcz12_1
  try clear hcz12_2
  try clear hcz14_0
  try clear hcz14_1
  try clear hcz14_2
  try clear hcz17_0
  try clear hcz17_1
  try clear hcz17_2
  try clear hfz12_0
  try clear hfz12_1
  try clear hfz12_2
  try clear hfz14_0
  try clear hfz14_1
  try clear hfz14_2
  try clear hfz17_0
  try clear hfz17_1
  try clear hfz17_2
  obtain ⟨kq, x17_2, rfl, HA, HJ2, HO_5, BK209, BK210, HB⟩ := hcut
  cases kq with
  | zero => exact absurd HA.out (by simp [spec_PairsOf.j0])
  | succ kj2 =>
   have H := HA.out
   clear HA
   simp only [spec_PairsOf.j0] at H
   by_cases c19 : x17_2 = true
   ·subst c19
    have H1 : (some y211) = some r := by rw [if_pos rfl] at H; exact H
    clear H
    have H := H1
    clear H1
    obtain rfl := Option.some.inj H
    go_wp2
    go_ret
    exact ⟨_, zE, by (with_reducible repeat (first | apply Kd.N_alloc | apply Kd.N_drewN | apply Kd.N_drew)); exact Kd.N_mono HO_5.out (fun _ hk => hk.1), zB HB⟩
   ·replace c19 := Bool.eq_false_iff.mpr c19
    subst c19
    have H1 : (if y211.length < 5864062014805 then (spec_PairsOf.l0 kj2 (y211 ++ [(([0, 0] : List Int))]) 0 a0_0 l0_1 l0_2 a1_0 l1_1 l1_2) else (none)) = some r := by rw [if_neg (show ¬ (false = true) by decide)] at H; exact H
    clear H
    have H := H1
    clear H1
    obtain ⟨y216, hy216⟩ : ∃ y_ : List Int, y_ = (([0, 0] : List Int)) := ⟨_, rfl⟩
    replace H : (if y211.length < 5864062014805 then (spec_PairsOf.l0 kj2 (y211 ++ [y216]) 0 a0_0 l0_1 l0_2 a1_0 l1_1 l1_2) else (none)) = some r := by first | (rw [hy216]; with_reducible exact H) | (have H2_ := (Option.bind_some _ _).symm.trans H; rw [hy216]; with_reducible exact H2_) | (have H2_ := (Option.bind_some _ _).symm.trans H; with_reducible exact H2_) | with_reducible exact H | (rw [hy216]; exact H) | exact H
    have Ny216 := Aside0.mk hy216
    clear hy216
    by_cases c20 : y211.length < 5864062014805
    ·rw [if_pos c20] at H
     have LMc20 := Aside0.mk c20
     clear c20
     obtain ⟨y219, hy219⟩ : ∃ y_ : List (List Int), y_ = (y211 ++ [y216]) := ⟨_, rfl⟩
     replace H : (spec_PairsOf.l0 kj2 y219 0 a0_0 l0_1 l0_2 a1_0 l1_1 l1_2) = some r := by first | (rw [hy219]; with_reducible exact H) | (have H2_ := (Option.bind_some _ _).symm.trans H; rw [hy219]; with_reducible exact H2_) | (have H2_ := (Option.bind_some _ _).symm.trans H; with_reducible exact H2_) | with_reducible exact H | (rw [hy219]; exact H) | exact H
     have Ny219 := Aside0.mk hy219
     clear hy219
     have H' := Aside0.mk H
     clear H
     go_wp2_with (first | ((with_reducible refine gate_dst (N := 20) rfl ?_); refine Kd.R_lit (Kd.int .i64) _ 3 ?hg (N := 20) ?hd (xs := ([0, 0] : List Int)) (inner := [.int .i64 0, .int .i64 0]) (ok := fun _ => True) (okp := fun _ => True) ?hr ?hp (fun _ hk => hk) trivial (Below.refl _ _) (Nat.le_refl _) (by simp) ?_; (case hd => rfl); (case hg => rfl); (case hr => first | (go_simp; done) | (go_simp; rfl)); (case hp => exact (Reps.one (show Kd.M (Kd.int .i64) _ _ _ 0 [.int .i64 0] from rfl) (Reps.one (show Kd.M (Kd.int .i64) _ _ _ 0 [.int .i64 0] from rfl) (Reps.none _ _)))); intro v217 w21 ho22 hb hg_ hnew_; clear hg_ hnew_; (first | rw [← Ny216.out] at ho22 | (simp only [Int.reduceToNat] at ho22; rw [← Ny216.out] at ho22)); replace HO_5 := Aside0.mk (Kd.N_elder' (by (with_reducible repeat (first | apply Kd.N_alloc | apply Kd.N_drewN | apply Kd.N_drew)); exact HO_5.out) (Kd.R_base ho22) hb); have HO218 := Aside0.mk (Kd.R_lower (Kd.R_newM (M := fun k_ => (w.heap.size ≤ k_)) ho22 (below_size (zB HB)) (fun k_ h_ => h_)) (below_size (zB HB))); replace BK209 := kB BK209 hb; replace BK210 := kB BK210 hb; replace HB := bS HB hb; clear hb ho22; obtain ⟨Ao24, co24, eo24⟩ := Kd.R_slice HO218.out; subst eo24) | ((with_reducible refine gate_builtin (b := .append) (xs := #[.tmp 19, .tmp 21]) rfl ?_); at_builtin; refine Kd.N_append (Kd.slice 3 (Kd.int .i64)) (w0 := w) w.heap.size rfl (.tmp 19) (.tmp 21) 27 38 (.slice none 0 0) 24 rfl Try.underlying27 info38 rfl (by decide) (by omega) v212 y211 y216 [.slice Ao24 y216.length co24] (fun k_ => (w.heap.size ≤ k_) ∧ k_ ≠ gb209 ∧ k_ ≠ gb210) (fun k_ => ((fun k_ => (w.heap.size ≤ k_) ∧ k_ ≠ gb209 ∧ k_ ≠ gb210)) k_ ∧ some k_ ≠ (v212 : Value).ownBlock) rfl rfl ?aP (fun _ hk => hk) ?aF ?aO ?aB ?aS ?aL ?_; (case aP => exact (Kd.FK_slice_mk (Kd.R_reads' (Kd.R_mono (ok' := (fun k_ => ((fun k_ => (w.heap.size ≤ k_) ∧ k_ ≠ gb209 ∧ k_ ≠ gb210)) k_ ∧ some k_ ≠ (v212 : Value).ownBlock)) (Kd.R_types (Kd.R_types (Kd.R_apart' (HO218.out) (Kd.N_typed HO_5.out) (by decide)) BK209.out (by decide)) BK210.out (by decide)) (fun k_ hk => ⟨⟨hk.1.1.1.1, ⟨hk.1.2, hk.2⟩⟩, hk.1.1.2⟩))).2.1 (Kd.R_F (Kd.R_mono (ok' := (fun k_ => ((fun k_ => (w.heap.size ≤ k_) ∧ k_ ≠ gb209 ∧ k_ ≠ gb210)) k_ ∧ some k_ ≠ (v212 : Value).ownBlock)) (Kd.R_types (Kd.R_types (Kd.R_apart' (HO218.out) (Kd.N_typed HO_5.out) (by decide)) BK209.out (by decide)) BK210.out (by decide)) (fun k_ hk => ⟨⟨hk.1.1.1.1, ⟨hk.1.2, hk.2⟩⟩, hk.1.1.2⟩))))); (case aB => exact (zB HB)); (case aF => exact (fun k_ hk => ⟨(Nat.le_trans (below_size (zB HB)) hk), Kd.freshB (g := gb209) (o := .cells #[.int .i64 a0_0, .slice A0_1 l0_1.length c0_1, .slice A0_2 l0_2.length c0_2] 31 (0, 0)) (zK BK209) k_ hk, Kd.freshB (g := gb210) (o := .cells #[.int .i64 a1_0, .slice A1_1 l1_1.length c1_1, .slice A1_2 l1_2.length c1_2] 31 (0, 0)) (zK BK210) k_ hk⟩)); (case aO => exact (by (with_reducible repeat (first | apply Kd.N_alloc | apply Kd.N_drewN | apply Kd.N_drew)); exact Kd.N_mono HO_5.out (fun _ hk => ⟨hk.1.1, ⟨hk.1.2.1, hk.1.2.2⟩⟩))); (case aS => exact (below_size (zB HB))); (case aL => have := LMc20.out; omega); intro v220 w23 ho hb hg hat; rw [← Ny219.out] at ho; replace BK209 := Aside0.mk (blk_grown (g := gb209) (o := .cells #[.int .i64 a0_0, .slice A0_1 l0_1.length c0_1, .slice A0_2 l0_2.length c0_2] 31 (0, 0)) (zK BK209) hg (Kd.N_ne HO_5.out BK209.out (by decide))); replace BK210 := Aside0.mk (blk_grown (g := gb210) (o := .cells #[.int .i64 a1_0, .slice A1_1 l1_1.length c1_1, .slice A1_2 l1_2.length c1_2] 31 (0, 0)) (zK BK210) hg (Kd.N_ne HO_5.out BK210.out (by decide))); replace HB := Aside0.mk (hb); have HO221 := Aside0.mk (ho); clear HO_5 HO218; clear ho hb hg hat))
     go_loopg [5, 6] kj2 (fun kq v5 v6 w' => ∃ (x5_2 : List (List Int)) (x6_2 : Int), v6 = .int .i64 x6_2 ∧ Aside0 (spec_PairsOf.l0 kq x5_2 x6_2 a0_0 l0_1 l0_2 a1_0 l1_1 l1_2 = some r) ∧ Aside0 (kq ≤ kj2) ∧ Aside0 (Kd.N (Kd.slice 3 (Kd.int .i64)) 38 w' w.heap.size (fun k_ => (w.heap.size ≤ k_) ∧ k_ ≠ gb209 ∧ k_ ≠ gb210) v5 x5_2) ∧ Aside0 (w'.heap[gb209]? = some (.cells #[.int .i64 a0_0, (.slice A0_1 l0_1.length c0_1), (.slice A0_2 l0_2.length c0_2)] 31 (0, 0))) ∧ Aside0 (w'.heap[gb210]? = some (.cells #[.int .i64 a1_0, (.slice A1_1 l1_1.length c1_1), (.slice A1_2 l1_2.length c1_2)] 31 (0, 0))) ∧ Aside0 (Below w.heap.size w w'))
     case atStart => exact ⟨(y219), (0), zF, H', ⟨Nat.le_refl _⟩, ⟨by (with_reducible repeat (first | apply Kd.N_alloc | apply Kd.N_drewN | apply Kd.N_drew)); exact HO221.out⟩, ⟨zK BK209⟩, ⟨zK BK210⟩, ⟨zB HB⟩⟩
     case round =>
      clear H'
      try clear c1
      try clear c2
      try clear p2
      try clear c3
      try clear c9
      try clear c10
      try clear c11
      try clear c16
      try clear c19
      try clear c20
      try clear hcz12_0
      try clear hcz12_1
      try clear hcz12_2
      try clear hcz14_0
      try clear hcz14_1
      try clear hcz14_2
      try clear hcz17_0
      try clear hcz17_1
      try clear hcz17_2
      try clear hfz12_0
      try clear hfz12_1
      try clear hfz12_2
      try clear hfz14_0
      try clear hfz14_1
      try clear hfz14_2
      try clear hfz17_0
      try clear hfz17_1
      try clear hfz17_2
      try clear p2
      obtain ⟨x5_2, x6_2, rfl, HA, HK2, HO_5, BK209, BK210, HB⟩ := hrel
      cases gk with
      | zero => exact absurd HA.out (by simp [spec_PairsOf.l0])
      | succ k2 =>
       have H := HA.out
       clear HA
       simp only [spec_PairsOf.l0] at H
       by_cases c25 : x6_2 < (x5_2.length : Int)
       ·rw [if_pos c25] at H
        have c25b0 : decide (x6_2 < (x5_2.length : Int)) = true := decide_eq_true c25
        clear c25
        obtain ⟨c26, H⟩ := ifS H
        have c26b0 : decide (0 ≤ x6_2) = true := decide_eq_true c26
        clear c26
        obtain ⟨c27, H⟩ := ifS H
        have c27b0 : decide (0 < ((rd_L4 x5_2 x6_2).length : Int)) = true := decide_eq_true c27
        have c27b1 : decide (0 < (rd_L4 x5_2 x6_2).length) = true := decide_eq_true (by omega)
        clear c27
        obtain ⟨c28, H⟩ := ifS H
        have c28b0 : decide (1 < ((rd_L4 x5_2 x6_2).length : Int)) = true := decide_eq_true c28
        have c28b1 : decide (1 < (rd_L4 x5_2 x6_2).length) = true := decide_eq_true (by omega)
        clear c28
        obtain ⟨t226, A29, H⟩ := bindS H
        have H' := Aside0.mk H
        clear H
        obtain ⟨Ao30, co30, eo30⟩ := Kd.N_slice HO_5.out
        subst eo30
        try go_wp2
        replace HO_5 := Aside0.mk (Kd.N_drew HO_5.out)
        replace BK209 := Aside0.mk (blk_drew BK209.out)
        replace BK210 := Aside0.mk (blk_drew BK210.out)
        replace HB := Aside0.mk (below_drew1 HB.out)
        have p222 : 0 ≤ (x6_2 : Int) := zD
        have q222 : x6_2 < (x5_2.length : Int) := zD
        obtain ⟨ad222, A222_0, c222_0, e222, hx222_0, hl222_0, hi222_0⟩ := at_L4 (Kd.N_reads' HO_5.out).2.2 x6_2 p222 q222
        cases e222
        obtain ⟨ce222, hce222, hMe222, hcc222⟩ := Kd.N_get HO_5.out [] x6_2 p222 (by first | exact q222 | exact zD | (have e_ := (Kd.N_reads' HO_5.out).1; omega))
        obtain ⟨ua222_0, uc222_0, rfl, ul222_0, ge222_0⟩ := Kd.FK_slice_open hMe222
        have hv222_0 := hcc222 0 _ rfl
        rw [Nat.add_zero, show ((Kd.slice 3 (Kd.int .i64))).sz = 1 from rfl, Nat.mul_one] at hv222_0
        replace hv222_0 := Option.some.inj (hv222_0.symm.trans hx222_0)
        injection hv222_0 with hva_ hvn_ hvc_
        rw [hva_] at ge222_0
        rw [hvc_] at ul222_0
        have HL222_0 := Aside0.mk (show Kd.V (Kd.int .i64) 3 _ w.heap.size _ _ (rd_L4 x5_2 x6_2) from Kd.V_mk ul222_0 ge222_0)
        clear hva_ hvn_ hvc_ ge222_0 ul222_0
        clear hcc222 hce222
        have HR222_0 := Aside0.mk hi222_0
        have HC222_0 := Aside0.mk hl222_0
        clear hi222_0 hl222_0
        replace p222 := eq_true p222
        replace q222 := eq_true q222
        have p223 : 0 ≤ (0 : Int) := (by omega)
        have q223 : 0 < ((rd_L4 x5_2 x6_2).length : Int) := zD
        obtain ⟨ad223, e223, hx223_0⟩ := Kd.at_int (by repeat (first | (with_reducible exact HR222_0.out) | (with_reducible refine Kd.C_alloc ?_ _) | (with_reducible refine Kd.C_drewN ?_ _) | (with_reducible refine Kd.C_drew ?_) | exact HR222_0.out)) 0 p223 q223
        cases e223
        have qi223 : (0 < (rd_L4 x5_2 x6_2).length) = True := eq_true (by omega)
        (try rw [show ((0 : Int)).toNat = 0 from rfl] at hx223_0)
        (try rw [Addr.add_zero'] at hx223_0)
        replace p223 := eq_true p223
        replace q223 := eq_true q223
        have p224 : 0 ≤ (x6_2 : Int) := zD
        have q224 : x6_2 < (x5_2.length : Int) := zD
        obtain ⟨ad224, A224_0, c224_0, e224, hx224_0, hl224_0, hi224_0⟩ := at_L4 (Kd.N_reads' HO_5.out).2.2 x6_2 p224 q224
        obtain rfl : ad222 = ad224 := (by injection e224)
        obtain ⟨ce224, hce224, hMe224, hcc224⟩ := Kd.N_get HO_5.out [] x6_2 p224 (by first | exact q224 | exact zD | (have e_ := (Kd.N_reads' HO_5.out).1; omega))
        obtain ⟨ua224_0, uc224_0, rfl, ul224_0, ge224_0⟩ := Kd.FK_slice_open hMe224
        have hv224_0 := hcc224 0 _ rfl
        rw [Nat.add_zero, show ((Kd.slice 3 (Kd.int .i64))).sz = 1 from rfl, Nat.mul_one] at hv224_0
        replace hv224_0 := Option.some.inj (hv224_0.symm.trans hx224_0)
        injection hv224_0 with hva_ hvn_ hvc_
        rw [hva_] at ge224_0
        rw [hvc_] at ul224_0
        have HL224_0 := Aside0.mk (show Kd.V (Kd.int .i64) 3 _ w.heap.size _ _ (rd_L4 x5_2 x6_2) from Kd.V_mk ul224_0 ge224_0)
        clear hva_ hvn_ hvc_ ge224_0 ul224_0
        clear hcc224 hce224
        have HR224_0 := Aside0.mk hi224_0
        have HC224_0 := Aside0.mk hl224_0
        clear hi224_0 hl224_0
        replace p224 := eq_true p224
        replace q224 := eq_true q224
        have ea_ := Option.some.inj (hx222_0.symm.trans hx224_0)
        injection ea_ with ea_ en_ ec_
        subst ea_
        subst ec_
        clear en_
        have p225 : 0 ≤ (1 : Int) := (by omega)
        have q225 : 1 < ((rd_L4 x5_2 x6_2).length : Int) := zD
        obtain ⟨ad225, e225, hx225_0⟩ := Kd.at_int (by repeat (first | (with_reducible exact HR224_0.out) | (with_reducible refine Kd.C_alloc ?_ _) | (with_reducible refine Kd.C_drewN ?_ _) | (with_reducible refine Kd.C_drew ?_) | exact HR224_0.out)) 1 p225 q225
        cases e225
        (try simp only [show (1 : Int).toNat = 1 from rfl, Nat.reduceMul, Nat.reduceEqDiff, Go.Addr.add, ↓reduceIte] at hx225_0)
        have qi225 : (1 < (rd_L4 x5_2 x6_2).length) = True := eq_true (by omega)
        (try rw [show ((1 : Int)).toNat = 1 from rfl] at hx225_0)
        replace p225 := eq_true p225
        replace q225 := eq_true q225
        refine start_ (n := 16) (S := fun w' => w'.cell? ⟨gb209, 0, none⟩ = some (.int .i64 a0_0) ∧ w'.cell? ⟨gb209, 1, none⟩ = some (.slice A0_1 l0_1.length c0_1) ∧ w'.cell? ⟨gb209, 2, none⟩ = some (.slice A0_2 l0_2.length c0_2) ∧ w'.cell? ⟨gb210, 0, none⟩ = some (.int .i64 a1_0) ∧ w'.cell? ⟨gb210, 1, none⟩ = some (.slice A1_1 l1_1.length c1_1) ∧ w'.cell? ⟨gb210, 2, none⟩ = some (.slice A1_2 l1_2.length c1_2) ∧ w'.cell? (ad222.add (x6_2).toNat) = some (.slice (some ad223) (rd_L4 x5_2 x6_2).length c222_0) ∧ w'.cell? ad223 = some (.int .i64 (rd (rd_L4 x5_2 x6_2) 0)) ∧ w'.cell? (ad222.add (x6_2).toNat) = some (.slice (some ad223) (rd_L4 x5_2 x6_2).length c222_0) ∧ w'.cell? ⟨ad223.block, ad223.off + 1, none⟩ = some (.int .i64 (rd (rd_L4 x5_2 x6_2) 1))) (ds := []) (bm 16 0) (by kernel_rfl) rfl (bm0 _) ⟨bc0 BK209, bc1 BK209, bc2 BK209, bc0 BK210, bc1 BK210, bc2 BK210, hx222_0, hx223_0, hx224_0, hx225_0⟩ (fun hHeld => ?_); refine with_tabW spec_PairsOf.tab8 spec_PairsOf.bits8 (fun HT_ HW_ => ?_)
        generalize wr.drew = w31 at HO_5 BK209 BK210 HB HL222_0 HL224_0 HR222_0 HR224_0 hx222_0 hx223_0 hx224_0 hx225_0 hHeld ⊢
        refine pU 2 (some 31) (bm 16 4) HT_ rfl rfl ?_
        refine pU 3 (some 32) (bm 16 12) HT_ rfl rfl ?_
        refine pU 4 (some 33) (bm 16 28) HT_ rfl rfl ?_
        refine pU 8 (some 37) (bm 16 284) HT_ rfl rfl ?_
        refine pU 9 (some 38) (bm 16 796) HT_ rfl rfl ?_
        refine pU 10 (some 39) (bm 16 1820) HT_ rfl rfl ?_
        refine tU 0 (some 29) (bm 16 1821) HT_ HW_ rfl rfl hHeld ?_
        refine tU 1 (some 30) (bm 16 1823) HT_ HW_ rfl rfl hHeld ?_
        refine tU 5 (some 34) (bm 16 1855) HT_ HW_ rfl rfl hHeld ?_
        refine pU 6 (some 35) (bm 16 1919) HT_ rfl rfl ?_
        refine tU 7 (some 36) (bm 16 2047) HT_ HW_ rfl rfl hHeld ?_
        refine tU 11 (some 40) (bm 16 4095) HT_ HW_ rfl rfl hHeld ?_
        refine pU 12 (some 41) (bm 16 8191) HT_ rfl rfl ?_
        refine tU 13 (some 42) (bm 16 16383) HT_ HW_ rfl rfl hHeld ?_
        refine one_ (i := 14) (N := some 43) (bm 16 32767) rfl rfl (one_of HT_.out (by kernel_rfl)) (by decide) (fun K hK => ?_)
        refine goes_ Try.func37 (by kernel_rfl) rfl #[.agg #[.int .i64 a0_0, .slice A0_1 l0_1.length c0_1, .slice A0_2 l0_2.length c0_2], .agg #[.int .i64 a1_0, .slice A1_1 l1_1.length c1_1, .slice A1_2 l1_2.length c1_2], .int .i64 (rd (rd_L4 x5_2 x6_2) 0), .int .i64 (rd (rd_L4 x5_2 x6_2) 1)] (by rfl) rfl rfl zG ?_
        with_reducible refine (spec_NextPairs.calls k2 a0_0 _ _ l0_1 _ _ l0_2 a1_0 _ _ l1_1 _ _ l1_2 (rd (rd_L4 x5_2 x6_2) 0) (rd (rd_L4 x5_2 x6_2) 1) t226 _ ?side1 ?side2 ?side3 ?side4 ?side5 ?side6 ?side7 ?side8 A29.out).mono ?_
        (case side1 => exact cS HR0_1 HB)
        (case side2 => exact HC0_1.out)
        (case side3 => exact cS HR0_2 HB)
        (case side4 => exact HC0_2.out)
        (case side5 => exact cS HR1_1 HB)
        (case side6 => exact HC1_1.out)
        (case side7 => exact cS HR1_2 HB)
        (case side8 => exact HC1_2.out)
        rintro e w32 ⟨v227, rfl, ho0, hb⟩
        have HS6_ := (hb.cell (World.block_lt_of_cell? _ _ (hHeld.2.2.2.2.2.2.1))).trans (hHeld.2.2.2.2.2.2.1)
        have HS7_ := (hb.cell (World.block_lt_of_cell? _ _ (hHeld.2.2.2.2.2.2.2.1))).trans (hHeld.2.2.2.2.2.2.2.1)
        have HS8_ := (hb.cell (World.block_lt_of_cell? _ _ (hHeld.2.2.2.2.2.2.2.2.1))).trans (hHeld.2.2.2.2.2.2.2.2.1)
        have HS9_ := (hb.cell (World.block_lt_of_cell? _ _ (hHeld.2.2.2.2.2.2.2.2.2))).trans (hHeld.2.2.2.2.2.2.2.2.2)
        refine ⟨_, rfl, ?_⟩
        replace HL222_0 := Aside0.mk (Kd.V_elder' (by (with_reducible repeat (first | apply Kd.V_alloc | apply Kd.V_drewN | apply Kd.V_drew)); exact HL222_0.out) (by first | exact Kd.N_base ho0 | exact Kd.S_base ho0) hb)
        replace HL224_0 := Aside0.mk (Kd.V_elder' (by (with_reducible repeat (first | apply Kd.V_alloc | apply Kd.V_drewN | apply Kd.V_drew)); exact HL224_0.out) (by first | exact Kd.N_base ho0 | exact Kd.S_base ho0) hb)
        have HO228 := Aside0.mk (Kd.N_lower (Kd.N_mono (ok' := fun k_ => (w.heap.size ≤ k_) ∧ some k_ ≠ (.slice (some ad222) x5_2.length co30 : Value).ownBlock ∧ k_ ≠ gb209 ∧ k_ ≠ gb210) (Kd.S_N (Kd.S_bound ho0)) (fun k_ hk_ => ⟨(Nat.le_trans (below_size (zB HB)) hk_.2.1), (Kd.fresh' (Kd.N_lt (by (with_reducible repeat (first | apply Kd.N_alloc | apply Kd.N_drewN | apply Kd.N_drew)); exact HO_5.out)) k_ hk_.2.1), (Kd.freshB (g := gb209) (o := .cells #[.int .i64 a0_0, .slice A0_1 l0_1.length c0_1, .slice A0_2 l0_2.length c0_2] 31 (0, 0)) (zK BK209) k_ hk_.2.1), (Kd.freshB (g := gb210) (o := .cells #[.int .i64 a1_0, .slice A1_1 l1_1.length c1_1, .slice A1_2 l1_2.length c1_2] 31 (0, 0)) (zK BK210) k_ hk_.2.1)⟩)) (below_size (zB HB)))
        replace HO_5 := Aside0.mk (Kd.N_elder' (by (with_reducible repeat (first | apply Kd.N_alloc | apply Kd.N_drewN | apply Kd.N_drew)); exact HO_5.out) (by first | exact Kd.N_base ho0 | exact Kd.S_base ho0) hb)
        replace BK209 := kB BK209 hb
        replace BK210 := kB BK210 hb
        replace HR222_0 := Aside0.mk (Kd.C_below (by repeat (first | (with_reducible exact HR222_0.out) | (with_reducible refine Kd.C_alloc ?_ _) | (with_reducible refine Kd.C_drewN ?_ _) | (with_reducible refine Kd.C_drew ?_) | exact HR222_0.out)) hb)
        replace HR224_0 := Aside0.mk (Kd.C_below (by repeat (first | (with_reducible exact HR224_0.out) | (with_reducible refine Kd.C_alloc ?_ _) | (with_reducible refine Kd.C_drewN ?_ _) | (with_reducible refine Kd.C_drew ?_) | exact HR224_0.out)) hb)
        replace HB := bS HB hb
        (try clear hb)
        (try clear hb2)
        (try clear hk)
        (try clear hi)
        (try clear ho0)
        refine hK.out _ _ ⟨bc0 BK209, bc1 BK209, bc2 BK209, bc0 BK210, bc1 BK210, bc2 BK210, HS6_, HS7_, HS8_, HS9_⟩ (fun hHeld => ?_)
        clear hK K
        refine norm_ (a' := ?_) ?_ ?_
        rotate_left
        ·show Act.put _ (some 43) _ = _
         simp only [Act.put, List.setIfInBounds_toArray, List.set_cons_zero, List.set_cons_succ, i64_w, i32_w]
         rfl
        refine pU 15 (some 7) (bm 16 65535) HT_ rfl rfl ?_
        refine done_ (done_of HT_.out (by kernel_rfl)) ?_
        try clear hHeld
        try go_wp2
        go_loopg [5, 8] k2 (fun kq v5 v8 w' => ∃ (x5_3 : List (List Int)) (x8_3 : Int), v8 = .int .i64 x8_3 ∧ Aside0 (spec_PairsOf.l1 kq x5_3 x6_2 t226 x8_3 a0_0 l0_1 l0_2 a1_0 l1_1 l1_2 = some r) ∧ Aside0 (kq ≤ k2) ∧ Aside0 (Kd.N (Kd.slice 3 (Kd.int .i64)) 38 w' w.heap.size (fun k_ => (w.heap.size ≤ k_) ∧ some k_ ≠ (v227 : Value).ownBlock ∧ k_ ≠ gb209 ∧ k_ ≠ gb210) v5 x5_3) ∧ Aside0 (Kd.N (Kd.slice 3 (Kd.int .i64)) 38 w' w.heap.size (fun k_ => (w.heap.size ≤ k_) ∧ some k_ ≠ (v5 : Value).ownBlock ∧ k_ ≠ gb209 ∧ k_ ≠ gb210) v227 t226) ∧ Aside0 (w'.heap[gb209]? = some (.cells #[.int .i64 a0_0, (.slice A0_1 l0_1.length c0_1), (.slice A0_2 l0_2.length c0_2)] 31 (0, 0))) ∧ Aside0 (w'.heap[gb210]? = some (.cells #[.int .i64 a1_0, (.slice A1_1 l1_1.length c1_1), (.slice A1_2 l1_2.length c1_2)] 31 (0, 0))) ∧ Aside0 (Below w.heap.size w w'))
        case atStart => exact ⟨(x5_2), (0), zF, H', ⟨Nat.le_refl _⟩, ⟨by (with_reducible repeat (first | apply Kd.N_alloc | apply Kd.N_drewN | apply Kd.N_drew)); exact Kd.N_mono HO_5.out (fun _ hk => ⟨hk.1.1, ⟨hk.2, ⟨hk.1.2.1, hk.1.2.2⟩⟩⟩)⟩, ⟨by (with_reducible repeat (first | apply Kd.N_alloc | apply Kd.N_drewN | apply Kd.N_drew)); exact HO228.out⟩, ⟨zK BK209⟩, ⟨zK BK210⟩, ⟨zB HB⟩⟩
        case round =>
         clear H'
         try clear c1
         try clear c2
         try clear p2
         try clear q2
         try clear hx2
         try clear qi2
         try clear c3
         try clear c9
         try clear c10
         try clear c11
         try clear c16
         try clear c19
         try clear c20
         try clear c22
         try clear p22
         try clear q22
         try clear hx22
         try clear qi22
         try clear c25
         try clear c25b0
         try clear c26
         try clear c26b0
         try clear c27
         try clear c27b0
         try clear c27b1
         try clear c28
         try clear c28b0
         try clear c28b1
         try clear hcz12_0
         try clear hcz12_1
         try clear hcz12_2
         try clear hcz14_0
         try clear hcz14_1
         try clear hcz14_2
         try clear hcz17_0
         try clear hcz17_1
         try clear hcz17_2
         try clear hfz12_0
         try clear hfz12_1
         try clear hfz12_2
         try clear hfz14_0
         try clear hfz14_1
         try clear hfz14_2
         try clear hfz17_0
         try clear hfz17_1
         try clear hfz17_2
         try clear hx222_0
         try clear hx223_0
         try clear hx224_0
         try clear hx225_0
         try clear p2
         try clear p222
         try clear p223
         try clear p224
         try clear p225
         try clear q222
         try clear q223
         try clear q224
         try clear q225
         obtain ⟨x5_3, x8_3, rfl, HA, HK3, HO_5, HO_7, BK209, BK210, HB⟩ := hrel
         cases gk with
         | zero => exact absurd HA.out (by simp [spec_PairsOf.l1])
         | succ k3 =>
          have H := HA.out
          clear HA
          simp only [spec_PairsOf.l1] at H
          by_cases c33 : x8_3 < (t226.length : Int)
          ·rw [if_pos c33] at H
           have c33b0 : decide (x8_3 < (t226.length : Int)) = true := decide_eq_true c33
           clear c33
           obtain ⟨c34, H⟩ := ifS H
           have c34b0 : decide (0 ≤ x8_3) = true := decide_eq_true c34
           clear c34
           obtain ⟨t230, A35, H⟩ := bindS H
           by_cases c36 : t230 = true
           ·subst c36
            have H1 : (spec_PairsOf.l1 k3 x5_3 x6_2 t226 (wrap64 (x8_3 + 1)) a0_0 l0_1 l0_2 a1_0 l1_1 l1_2) = some r := by rw [if_pos rfl] at H; exact H
            clear H
            have H := H1
            clear H1
            have H' := Aside0.mk H
            clear H
            obtain ⟨Ao37, co37, eo37⟩ := Kd.N_slice HO_7.out
            subst eo37
            have p229 : 0 ≤ (x8_3 : Int) := zD
            have q229 : x8_3 < (t226.length : Int) := zD
            obtain ⟨ad229, A229_0, c229_0, e229, hx229_0, hl229_0, hi229_0⟩ := at_L4 (Kd.N_reads' HO_7.out).2.2 x8_3 p229 q229
            cases e229
            obtain ⟨ce229, hce229, hMe229, hcc229⟩ := Kd.N_get HO_7.out [] x8_3 p229 (by first | exact q229 | exact zD | (have e_ := (Kd.N_reads' HO_7.out).1; omega))
            obtain ⟨ua229_0, uc229_0, rfl, ul229_0, ge229_0⟩ := Kd.FK_slice_open hMe229
            have hv229_0 := hcc229 0 _ rfl
            rw [Nat.add_zero, show ((Kd.slice 3 (Kd.int .i64))).sz = 1 from rfl, Nat.mul_one] at hv229_0
            replace hv229_0 := Option.some.inj (hv229_0.symm.trans hx229_0)
            injection hv229_0 with hva_ hvn_ hvc_
            rw [hva_] at ge229_0
            rw [hvc_] at ul229_0
            have HL229_0 := Aside0.mk (show Kd.V (Kd.int .i64) 3 _ w.heap.size _ _ (rd_L4 t226 x8_3) from Kd.V_mk ul229_0 ge229_0)
            clear hva_ hvn_ hvc_ ge229_0 ul229_0
            clear hcc229 hce229
            have HR229_0 := Aside0.mk hi229_0
            have HC229_0 := Aside0.mk hl229_0
            clear hi229_0 hl229_0
            replace p229 := eq_true p229
            replace q229 := eq_true q229
            obtain ⟨Ao38, co38, eo38⟩ := Kd.N_slice HO_5.out
            subst eo38
            go_wp2_with (first | ((with_reducible refine gate_callee (f := 38) rfl ?_); refine goesL_ (some 55) rfl rfl Try.func38 (by kernel_rfl) rfl #[.slice Ao38 x5_3.length co38, .slice A229_0 (rd_L4 t226 x8_3).length c229_0] rfl zG ?_; (with_reducible refine (spec_l14Has.calls k3 _ _ x5_3 _ _ (rd_L4 t226 x8_3) true _ ?side1 ?side2 ?side3 ?side4 A35.out).mono ?_); (case side1 => repeat (first | exact (Kd.N_reads' HO_5.out).2.2 | (with_reducible refine Kd.C_alloc ?_ _) | (with_reducible refine Kd.C_drewN ?_ _) | (with_reducible refine Kd.C_drew ?_))); (case side2 => exact (Kd.N_reads' HO_5.out).2.1); (case side3 => repeat (first | exact (by repeat (first | (with_reducible exact HR229_0.out) | (with_reducible refine Kd.C_alloc ?_ _) | (with_reducible refine Kd.C_drewN ?_ _) | (with_reducible refine Kd.C_drew ?_) | exact HR229_0.out)) | (with_reducible refine Kd.C_alloc ?_ _) | (with_reducible refine Kd.C_drewN ?_ _) | (with_reducible refine Kd.C_drew ?_))); (case side4 => exact HC229_0.out); rintro e w' ⟨rfl, ⟨nd, rfl⟩⟩; refine ⟨_, rfl, ?_⟩))
            go_roundg k3
            case measure => have := HJ2.out; have := HK2.out; have := HK3.out; omega
            case rel => exact ⟨(x5_3), (wrap64 (x8_3 + 1)), zF, H', ⟨by have := HJ2.out; have := HK2.out; have := HK3.out; omega⟩, ⟨by (with_reducible repeat (first | apply Kd.N_alloc | apply Kd.N_drewN | apply Kd.N_drew)); exact HO_5.out⟩, ⟨by (with_reducible repeat (first | apply Kd.N_alloc | apply Kd.N_drewN | apply Kd.N_drew)); exact HO_7.out⟩, ⟨zK BK209⟩, ⟨zK BK210⟩, ⟨zB HB⟩⟩
           ·replace c36 := Bool.eq_false_iff.mpr c36
            subst c36
            have H1 : (if x5_3.length < 5864062014805 then (spec_PairsOf.l1 k3 (x5_3 ++ [rd_L4 t226 x8_3]) x6_2 t226 (wrap64 (x8_3 + 1)) a0_0 l0_1 l0_2 a1_0 l1_1 l1_2) else (none)) = some r := by rw [if_neg (show ¬ (false = true) by decide)] at H; exact H
            clear H
            have H := H1
            clear H1
            obtain ⟨c39, H⟩ := ifS H
            have LMc39 := Aside0.mk c39
            clear c39
            obtain ⟨y232, hy232⟩ : ∃ y_ : List (List Int), y_ = (x5_3 ++ [rd_L4 t226 x8_3]) := ⟨_, rfl⟩
            replace H : (spec_PairsOf.l1 k3 y232 x6_2 t226 (wrap64 (x8_3 + 1)) a0_0 l0_1 l0_2 a1_0 l1_1 l1_2) = some r := by first | (rw [hy232]; with_reducible exact H) | (have H2_ := (Option.bind_some _ _).symm.trans H; rw [hy232]; with_reducible exact H2_) | (have H2_ := (Option.bind_some _ _).symm.trans H; with_reducible exact H2_) | with_reducible exact H | (rw [hy232]; exact H) | exact H
            have Ny232 := Aside0.mk hy232
            clear hy232
            have H' := Aside0.mk H
            clear H
            obtain ⟨Ao40, co40, eo40⟩ := Kd.N_slice HO_7.out
            subst eo40
            have p229 : 0 ≤ (x8_3 : Int) := zD
            have q229 : x8_3 < (t226.length : Int) := zD
            obtain ⟨ad229, A229_0, c229_0, e229, hx229_0, hl229_0, hi229_0⟩ := at_L4 (Kd.N_reads' HO_7.out).2.2 x8_3 p229 q229
            cases e229
            obtain ⟨ce229, hce229, hMe229, hcc229⟩ := Kd.N_get HO_7.out [] x8_3 p229 (by first | exact q229 | exact zD | (have e_ := (Kd.N_reads' HO_7.out).1; omega))
            obtain ⟨ua229_0, uc229_0, rfl, ul229_0, ge229_0⟩ := Kd.FK_slice_open hMe229
            have hv229_0 := hcc229 0 _ rfl
            rw [Nat.add_zero, show ((Kd.slice 3 (Kd.int .i64))).sz = 1 from rfl, Nat.mul_one] at hv229_0
            replace hv229_0 := Option.some.inj (hv229_0.symm.trans hx229_0)
            injection hv229_0 with hva_ hvn_ hvc_
            rw [hva_] at ge229_0
            rw [hvc_] at ul229_0
            have HL229_0 := Aside0.mk (show Kd.V (Kd.int .i64) 3 _ w.heap.size _ _ (rd_L4 t226 x8_3) from Kd.V_mk ul229_0 ge229_0)
            clear hva_ hvn_ hvc_ ge229_0 ul229_0
            clear hcc229 hce229
            have HR229_0 := Aside0.mk hi229_0
            have HC229_0 := Aside0.mk hl229_0
            clear hi229_0 hl229_0
            replace p229 := eq_true p229
            replace q229 := eq_true q229
            obtain ⟨Ao41, co41, eo41⟩ := Kd.N_slice HO_5.out
            subst eo41
            go_wp2_with (first | ((with_reducible refine gate_callee (f := 38) rfl ?_); refine goesL_ (some 55) rfl rfl Try.func38 (by kernel_rfl) rfl #[.slice Ao41 x5_3.length co41, .slice A229_0 (rd_L4 t226 x8_3).length c229_0] rfl zG ?_; (with_reducible refine (spec_l14Has.calls k3 _ _ x5_3 _ _ (rd_L4 t226 x8_3) false _ ?side1 ?side2 ?side3 ?side4 A35.out).mono ?_); (case side1 => repeat (first | exact (Kd.N_reads' HO_5.out).2.2 | (with_reducible refine Kd.C_alloc ?_ _) | (with_reducible refine Kd.C_drewN ?_ _) | (with_reducible refine Kd.C_drew ?_))); (case side2 => exact (Kd.N_reads' HO_5.out).2.1); (case side3 => repeat (first | exact (by repeat (first | (with_reducible exact HR229_0.out) | (with_reducible refine Kd.C_alloc ?_ _) | (with_reducible refine Kd.C_drewN ?_ _) | (with_reducible refine Kd.C_drew ?_) | exact HR229_0.out)) | (with_reducible refine Kd.C_alloc ?_ _) | (with_reducible refine Kd.C_drewN ?_ _) | (with_reducible refine Kd.C_drew ?_))); (case side4 => exact HC229_0.out); rintro e w' ⟨rfl, ⟨nd, rfl⟩⟩; refine ⟨_, rfl, ?_⟩; have p231 : 0 ≤ (x8_3 : Int) := zD; have q231 : x8_3 < (t226.length : Int) := zD; obtain ⟨ad231, A231_0, c231_0, e231, hx231_0, hl231_0, hi231_0⟩ := at_L4 (Kd.N_reads' HO_7.out).2.2 x8_3 p231 q231; obtain rfl : ad229 = ad231 := (by injection e231); obtain ⟨ce231, hce231, hMe231, hcc231⟩ := Kd.N_get HO_7.out [] x8_3 p231 (by first | exact q231 | exact zD | (have e_ := (Kd.N_reads' HO_7.out).1; omega)); obtain ⟨ua231_0, uc231_0, rfl, ul231_0, ge231_0⟩ := Kd.FK_slice_open hMe231; have hv231_0 := hcc231 0 _ rfl; rw [Nat.add_zero, show ((Kd.slice 3 (Kd.int .i64))).sz = 1 from rfl, Nat.mul_one] at hv231_0; replace hv231_0 := Option.some.inj (hv231_0.symm.trans hx231_0); injection hv231_0 with hva_ hvn_ hvc_; rw [hva_] at ge231_0; rw [hvc_] at ul231_0; have HL231_0 := Aside0.mk (show Kd.V (Kd.int .i64) 3 _ w.heap.size _ _ (rd_L4 t226 x8_3) from Kd.V_mk ul231_0 ge231_0); clear hva_ hvn_ hvc_ ge231_0 ul231_0; clear hcc231 hce231; have HR231_0 := Aside0.mk hi231_0; have HC231_0 := Aside0.mk hl231_0; clear hi231_0 hl231_0; replace p231 := eq_true p231; replace q231 := eq_true q231; have ea_ := Option.some.inj (hx229_0.symm.trans hx231_0); injection ea_ with ea_ en_ ec_; subst ea_; subst ec_; clear en_) | ((with_reducible refine gate_builtin (b := .append) (xs := #[.tmp 57, .tmp 62]) rfl ?_); at_builtin; refine Kd.N_append (Kd.slice 3 (Kd.int .i64)) (w0 := w) w.heap.size rfl (.tmp 57) (.tmp 62) 27 38 (.slice none 0 0) 24 rfl Try.underlying27 info38 rfl (by decide) (by omega) (.slice Ao41 x5_3.length co41) x5_3 (rd_L4 t226 x8_3) [.slice A229_0 (rd_L4 t226 x8_3).length c229_0] (fun k_ => (w.heap.size ≤ k_) ∧ some k_ ≠ (.slice (some ad229) t226.length co40 : Value).ownBlock ∧ k_ ≠ gb209 ∧ k_ ≠ gb210) (fun k_ => ((fun k_ => (w.heap.size ≤ k_) ∧ some k_ ≠ (.slice (some ad229) t226.length co40 : Value).ownBlock ∧ k_ ≠ gb209 ∧ k_ ≠ gb210)) k_ ∧ some k_ ≠ (.slice Ao41 x5_3.length co41 : Value).ownBlock) rfl rfl ?aP (fun _ hk => hk) ?aF ?aO ?aB ?aS ?aL ?_; (case aP => first | exact (Kd.FK_slice_mk (Kd.V_reads' (Kd.V_mono (ok' := (fun k_ => ((fun k_ => (w.heap.size ≤ k_) ∧ some k_ ≠ (.slice (some ad229) t226.length co40 : Value).ownBlock ∧ k_ ≠ gb209 ∧ k_ ≠ gb210)) k_ ∧ some k_ ≠ (.slice Ao41 x5_3.length co41 : Value).ownBlock)) (HL231_0.out) (fun k_ hk => ⟨⟨hk.1.1, ⟨hk.2, ⟨hk.1.2.2.1, hk.1.2.2.2⟩⟩⟩, hk.1.2.1⟩))).2.1 (Kd.V_F (Kd.V_mono (ok' := (fun k_ => ((fun k_ => (w.heap.size ≤ k_) ∧ some k_ ≠ (.slice (some ad229) t226.length co40 : Value).ownBlock ∧ k_ ≠ gb209 ∧ k_ ≠ gb210)) k_ ∧ some k_ ≠ (.slice Ao41 x5_3.length co41 : Value).ownBlock)) (HL231_0.out) (fun k_ hk => ⟨⟨hk.1.1, ⟨hk.2, ⟨hk.1.2.2.1, hk.1.2.2.2⟩⟩⟩, hk.1.2.1⟩)))) | exact (Kd.FK_slice_mk (Kd.V_reads' (Kd.V_mono (ok' := (fun k_ => ((fun k_ => (w.heap.size ≤ k_) ∧ some k_ ≠ (.slice (some ad229) t226.length co40 : Value).ownBlock ∧ k_ ≠ gb209 ∧ k_ ≠ gb210)) k_ ∧ some k_ ≠ (.slice Ao41 x5_3.length co41 : Value).ownBlock)) (HL231_0.out) (fun k_ hk => ⟨⟨hk.1.1, ⟨hk.2, ⟨hk.1.2.2.1, hk.1.2.2.2⟩⟩⟩, hk.1.2.1⟩))).2.1 (Kd.V_F (Kd.V_mono (ok' := (fun k_ => ((fun k_ => (w.heap.size ≤ k_) ∧ some k_ ≠ (.slice (some ad229) t226.length co40 : Value).ownBlock ∧ k_ ≠ gb209 ∧ k_ ≠ gb210)) k_ ∧ some k_ ≠ (.slice Ao41 x5_3.length co41 : Value).ownBlock)) (Kd.V_drewN HL231_0.out _) (fun k_ hk => ⟨⟨hk.1.1, ⟨hk.2, ⟨hk.1.2.2.1, hk.1.2.2.2⟩⟩⟩, hk.1.2.1⟩))))); (case aB => exact (zB HB)); (case aF => exact (fun k_ hk => ⟨(Nat.le_trans (below_size (zB HB)) hk), Kd.fresh' (Kd.N_lt (by (with_reducible repeat (first | apply Kd.N_alloc | apply Kd.N_drewN | apply Kd.N_drew)); exact HO_7.out)) k_ hk, Kd.freshB (g := gb209) (o := .cells #[.int .i64 a0_0, .slice A0_1 l0_1.length c0_1, .slice A0_2 l0_2.length c0_2] 31 (0, 0)) (zK BK209) k_ hk, Kd.freshB (g := gb210) (o := .cells #[.int .i64 a1_0, .slice A1_1 l1_1.length c1_1, .slice A1_2 l1_2.length c1_2] 31 (0, 0)) (zK BK210) k_ hk⟩)); (case aO => exact (by (with_reducible repeat (first | apply Kd.N_alloc | apply Kd.N_drewN | apply Kd.N_drew)); exact HO_5.out)); (case aS => exact (below_size (zB HB))); (case aL => have := LMc39.out; omega); intro v233 w42 ho hb hg hat; rw [← Ny232.out] at ho; replace HO_7 := Aside0.mk (Kd.N_afterv (ok := (fun k_ => (w.heap.size ≤ k_) ∧ k_ ≠ gb209 ∧ k_ ≠ gb210)) (by (with_reducible repeat (first | apply Kd.N_alloc | apply Kd.N_drewN | apply Kd.N_drew)); exact Kd.N_mono HO_7.out (fun _ hk => ⟨⟨hk.1, ⟨hk.2.2.1, hk.2.2.2⟩⟩, hk.2.1⟩)) hg hat); replace BK209 := Aside0.mk (blk_grown (g := gb209) (o := .cells #[.int .i64 a0_0, .slice A0_1 l0_1.length c0_1, .slice A0_2 l0_2.length c0_2] 31 (0, 0)) (zK BK209) hg (Kd.N_ne HO_5.out BK209.out (by decide))); replace BK210 := Aside0.mk (blk_grown (g := gb210) (o := .cells #[.int .i64 a1_0, .slice A1_1 l1_1.length c1_1, .slice A1_2 l1_2.length c1_2] 31 (0, 0)) (zK BK210) hg (Kd.N_ne HO_5.out BK210.out (by decide))); replace HL229_0 := Aside0.mk (Kd.V_afterv (ok := (fun k_ => (w.heap.size ≤ k_) ∧ some k_ ≠ (.slice (some ad229) t226.length co40 : Value).ownBlock ∧ k_ ≠ gb209 ∧ k_ ≠ gb210)) (by (with_reducible repeat (first | apply Kd.V_alloc | apply Kd.V_drewN | apply Kd.V_drew)); exact Kd.V_mono HL229_0.out (fun _ hk => ⟨⟨hk.1.1, ⟨hk.2, ⟨hk.1.2.2.1, hk.1.2.2.2⟩⟩⟩, hk.1.2.1⟩)) hg hat); replace HL231_0 := Aside0.mk (Kd.V_afterv (ok := (fun k_ => (w.heap.size ≤ k_) ∧ some k_ ≠ (.slice (some ad229) t226.length co40 : Value).ownBlock ∧ k_ ≠ gb209 ∧ k_ ≠ gb210)) (by (with_reducible repeat (first | apply Kd.V_alloc | apply Kd.V_drewN | apply Kd.V_drew)); exact Kd.V_mono HL231_0.out (fun _ hk => ⟨⟨hk.1.1, ⟨hk.2, ⟨hk.1.2.2.1, hk.1.2.2.2⟩⟩⟩, hk.1.2.1⟩)) hg hat); replace HB := Aside0.mk (hb); have HO234 := Aside0.mk (ho); clear HO_5; clear ho hb hg hat))
            go_roundg k3
            case measure => have := HJ2.out; have := HK2.out; have := HK3.out; omega
            case rel => exact ⟨(y232), (wrap64 (x8_3 + 1)), zF, H', ⟨by have := HJ2.out; have := HK2.out; have := HK3.out; omega⟩, ⟨by (with_reducible repeat (first | apply Kd.N_alloc | apply Kd.N_drewN | apply Kd.N_drew)); exact HO234.out⟩, ⟨by (with_reducible repeat (first | apply Kd.N_alloc | apply Kd.N_drewN | apply Kd.N_drew)); exact Kd.N_mono HO_7.out (fun _ hk => ⟨hk.1.1, ⟨hk.2, ⟨hk.1.2.1, hk.1.2.2⟩⟩⟩)⟩, ⟨zK BK209⟩, ⟨zK BK210⟩, ⟨zB HB⟩⟩
          ·rw [if_neg c33] at H
           have c33b0 : decide (x8_3 < (t226.length : Int)) = false := decide_eq_false c33
           clear c33
           have H' := Aside0.mk H
           clear H
           obtain ⟨Ao43, co43, eo43⟩ := Kd.N_slice HO_7.out
           subst eo43
           go_wp2
           go_roundg k3
           case measure => have := HJ2.out; have := HK2.out; have := HK3.out; omega
           case rel => exact ⟨(x5_3), (wrap64 (x6_2 + 1)), zF, H', ⟨by have := HJ2.out; have := HK2.out; have := HK3.out; omega⟩, ⟨by (with_reducible repeat (first | apply Kd.N_alloc | apply Kd.N_drewN | apply Kd.N_drew)); exact Kd.N_mono HO_5.out (fun _ hk => ⟨hk.1, ⟨hk.2.2.1, hk.2.2.2⟩⟩)⟩, ⟨zK BK209⟩, ⟨zK BK210⟩, ⟨zB HB⟩⟩
       ·rw [if_neg c25] at H
        have c25b0 : decide (x6_2 < (x5_2.length : Int)) = false := decide_eq_false c25
        clear c25
        obtain rfl := Option.some.inj H
        obtain ⟨Ao44, co44, eo44⟩ := Kd.N_slice HO_5.out
        subst eo44
        go_wp2
        go_ret
        exact ⟨_, zE, by (with_reducible repeat (first | apply Kd.N_alloc | apply Kd.N_drewN | apply Kd.N_drew)); exact Kd.N_mono HO_5.out (fun _ hk => hk.1), zB HB⟩
    ·rw [if_neg c20] at H
     exact absurd H (by simp)

end Go.Proofs.Ytmenijbpglknbaa.PFnExactPairsOf
