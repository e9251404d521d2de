-- WRITTEN by pp.py, this session's own wrapper around the print; not trusted: Lean checks it
import Derived.Test.YtljoejddjendbaaPFnExactStripGreasex0
import Derived.Test.YtljoejddjendbaaPFnExactStripGreasex1
import Derived.Test.YtljoejddjendbaaPFnExactStripGreasex2
import Derived.Test.YtljoejddjendbaaPFnExactStripGreasex3
namespace Go.Proofs.Ytljoejddjendbaa.PFnExactStripGrease
open Go.RowKit Go.Proofs.Ytljoejddjendbaa.Hw Go.Proofs.YtljoejddjendbaaW.PrintWords Go.Proofs.YtljoejddjendbaaW.PrintLast Go.Proofs.YtljoejddjendbaaW.PrintMore
attribute [local go_sem] max2_int min2_int max_two min_two max_three min_three max_four min_four   -- for this text's walks alone
set_option linter.unusedVariables false
set_option linter.unusedSimpArgs false
set_option linter.unusedSectionVars false

/-! ### laws_heldIntS: function 31 -/
def laws_heldIntS.l0 : Nat → List Int → Int → Int → Option (Int)
  | 0, _, _, _ => none
  | k + 1, x0, x1, x5 => if x5 < (x0.length : Int) then (if 0 ≤ x5 then (if (rd x0 x5) = x1 then (laws_heldIntS.l0 k x0 (wrap64 (x1 + 1)) (wrap64 (x5 + 1))) else (some (-1))) else (none)) else (some x1)
def laws_heldIntS.f (k : Nat) (l0 : List Int) (a1 : Int) : Option (Int) := laws_heldIntS.l0 k l0 a1 0
theorem laws_heldIntS.mono_l : ∀ k, (∀ y0 y1 y2, LeO (laws_heldIntS.l0 k y0 y1 y2) (laws_heldIntS.l0 (k + 1) y0 y1 y2))
  | 0 => fun _ _ _ r h => by simp [laws_heldIntS.l0] at h
  | k + 1 => by
    have ih0 := laws_heldIntS.mono_l k
    · intro y0 y1 y2
      unfold laws_heldIntS.l0
      repeat' first
      | (with_reducible exact ih0 _ _ _)
      | (with_reducible exact LeO.refl _)
      | (with_reducible exact LeO.none _)
      | (with_reducible refine LeO.ite ?_ ?_)
      | (with_reducible refine LeO.bind ?_ (fun _ => ?_))
      | exact ih0 _ _ _
      | exact LeO.none _
      | refine LeO.ite ?_ ?_
      | refine LeO.bind ?_ (fun _ => ?_)
theorem laws_heldIntS.mono : ∀ a0 a1 k, LeO (laws_heldIntS.f k a0 a1) (laws_heldIntS.f (k + 1) a0 a1) := by
  intro a0 a1 k
  have ih0 := laws_heldIntS.mono_l k
  unfold laws_heldIntS.f
  repeat' first
      | (with_reducible exact ih0 _ _ _)
      | (with_reducible exact LeO.refl _)
      | (with_reducible exact LeO.none _)
      | (with_reducible refine LeO.ite ?_ ?_)
      | (with_reducible refine LeO.bind ?_ (fun _ => ?_))
      | exact ih0 _ _ _
      | exact LeO.none _
      | refine LeO.ite ?_ ?_
      | refine LeO.bind ?_ (fun _ => ?_)
set_option maxHeartbeats 8000000 in
set_option maxRecDepth 100000 in
theorem laws_heldIntS.calls (k : Nat) (A0 : Option Addr) (c0 : Nat) (l0 : List Int) (a1 : Int) (r : Int) (w : World) (hr0 : Kd.C (Kd.int .i64) w A0 l0.length l0) (hc0 : l0.length ≤ c0) (h : laws_heldIntS.f k l0 a1 = some r) :
    Calls Try.prog 31 #[.slice A0 l0.length c0, .int .i64 a1] w fun e w' => e = .returned (.int .i64 r) ∧ Drawn0 w w' := by
  have HR0 := Aside0.mk hr0
  have HC0 := Aside0.mk hc0
  clear hr0 hc0
  have H : (laws_heldIntS.l0 k l0 a1 0) = some r := h
  clear h
  have H' := Aside0.mk H
  clear H
  go_enter Try.func31, Try.ntmps31
  go_wp2
  go_loopg [1, 5] k (fun kq v1 v5 w' => ∃ (x1_1 : Int) (x5_1 : Int), v1 = .int .i64 x1_1 ∧ v5 = .int .i64 x5_1 ∧ Aside0 (laws_heldIntS.l0 kq l0 x1_1 x5_1 = some r) ∧ Aside0 (kq ≤ k) ∧ Drawn0 w w')
  case atStart => exact ⟨(a1), (0), (by first | rfl | (simp; done) | (simp [*]; done)), (by first | rfl | (simp; done) | (simp [*]; done)), H', ⟨Nat.le_refl _⟩, by repeat (first | exact Drawn0.refl _ | apply Drawn0.step)⟩
  case round =>
    clear H'
    try clear p2
    obtain ⟨x1_1, x5_1, rfl, rfl, HA, HK1, ⟨m1, rfl⟩⟩ := hrel
    cases gk with
    | zero => exact absurd HA.out (by simp [laws_heldIntS.l0])
    | succ k1 =>
      have H := HA.out
      clear HA
      simp only [laws_heldIntS.l0] at H
      by_cases c3 : x5_1 < (l0.length : Int)
      · rw [if_pos c3] at H
        have c3b0 : decide (x5_1 < (l0.length : Int)) = true := decide_eq_true c3
        clear c3
        by_cases c4 : 0 ≤ x5_1
        · rw [if_pos c4] at H
          have c4b0 : decide (0 ≤ x5_1) = true := decide_eq_true c4
          clear c4
          by_cases c5 : (rd l0 x5_1) = x1_1
          · rw [if_pos c5] at H
            have c5b0 : ((rd l0 x5_1) == x1_1) = true := beq_iff_eq.mpr c5
            have c5b1 : ((rd l0 x5_1) != x1_1) = false := bne_eq_false_iff_eq.mpr c5
            clear c5
            have H' := Aside0.mk H
            clear H
            have p168 : 0 ≤ (x5_1 : Int) := of_decide_eq_true (by first | (with_reducible assumption) | assumption)
            have q168 : x5_1 < (l0.length : Int) := of_decide_eq_true (by first | (with_reducible assumption) | assumption)
            obtain ⟨ad168, e168, hx168_0⟩ := Kd.at_int HR0.out x5_1 p168 q168
            cases e168
            replace p168 := eq_true p168
            replace q168 := eq_true q168
            go_wp2
            go_roundg k1
            case measure => have := HK1.out; omega
            case rel => exact ⟨(wrap64 (x1_1 + 1)), (wrap64 (x5_1 + 1)), (by first | rfl | (simp; done) | (simp [*]; done)), (by first | rfl | (simp; done) | (simp [*]; done)), H', ⟨by have := HK1.out; omega⟩, by repeat (first | exact Drawn0.refl _ | apply Drawn0.step)⟩
          · rw [if_neg c5] at H
            have c5b0 : ((rd l0 x5_1) == x1_1) = false := beq_eq_false_iff_ne.mpr c5
            have c5b1 : ((rd l0 x5_1) != x1_1) = true := bne_iff_ne.mpr c5
            obtain rfl := Option.some.inj H
            have p168 : 0 ≤ (x5_1 : Int) := of_decide_eq_true (by first | (with_reducible assumption) | assumption)
            have q168 : x5_1 < (l0.length : Int) := of_decide_eq_true (by first | (with_reducible assumption) | assumption)
            obtain ⟨ad168, e168, hx168_0⟩ := Kd.at_int HR0.out x5_1 p168 q168
            cases e168
            replace p168 := eq_true p168
            replace q168 := eq_true q168
            go_wp2
            go_ret
            exact ⟨by first | rfl | (simp; done) | (simp [*]; done), by repeat (first | exact Drawn0.refl _ | apply Drawn0.step)⟩
        · rw [if_neg c4] at H
          exact absurd H (by simp)
      · rw [if_neg c3] at H
        have c3b0 : decide (x5_1 < (l0.length : Int)) = false := decide_eq_false c3
        clear c3
        obtain rfl := Option.some.inj H
        go_wp2
        go_ret
        exact ⟨by first | rfl | (simp; done) | (simp [*]; done), by repeat (first | exact Drawn0.refl _ | apply Drawn0.step)⟩

/-! ### laws_heldExtS: function 38 -/
def laws_heldExtS.l0 : Nat → List (S61) → Int → Int → Option (Int)
  | 0, _, _, _ => none
  | k + 1, x0, x1, x5 => if x5 < (x0.length : Int) then (if 0 ≤ x5 then (if ((rd_T61 x0 x5).f0) = x1 then ((laws_heldIntS.f k ((rd_T61 x0 x5).f1) (wrap64 (x1 + 1))).bind fun t171 => (if t171 < 0 then (some (-1)) else (laws_heldExtS.l0 k x0 t171 (wrap64 (x5 + 1))))) else (some (-1))) else (none)) else (some x1)
def laws_heldExtS.f (k : Nat) (l0 : List (S61)) (a1 : Int) : Option (Int) := laws_heldExtS.l0 k l0 a1 0
theorem laws_heldExtS.mono_l : ∀ k, (∀ y0 y1 y2, LeO (laws_heldExtS.l0 k y0 y1 y2) (laws_heldExtS.l0 (k + 1) y0 y1 y2))
  | 0 => fun _ _ _ r h => by simp [laws_heldExtS.l0] at h
  | k + 1 => by
    have ih0 := laws_heldExtS.mono_l k
    · intro y0 y1 y2
      unfold laws_heldExtS.l0
      repeat' first
      | (with_reducible exact ih0 _ _ _)
      | (with_reducible exact laws_heldIntS.mono _ _ _)
      | (with_reducible exact LeO.refl _)
      | (with_reducible exact LeO.none _)
      | (with_reducible refine LeO.ite ?_ ?_)
      | (with_reducible refine LeO.bind ?_ (fun _ => ?_))
      | exact ih0 _ _ _
      | exact laws_heldIntS.mono _ _ _
      | exact LeO.none _
      | refine LeO.ite ?_ ?_
      | refine LeO.bind ?_ (fun _ => ?_)
theorem laws_heldExtS.mono : ∀ a0 a1 k, LeO (laws_heldExtS.f k a0 a1) (laws_heldExtS.f (k + 1) a0 a1) := by
  intro a0 a1 k
  have ih0 := laws_heldExtS.mono_l k
  unfold laws_heldExtS.f
  repeat' first
      | (with_reducible exact ih0 _ _ _)
      | (with_reducible exact laws_heldIntS.mono _ _ _)
      | (with_reducible exact LeO.refl _)
      | (with_reducible exact LeO.none _)
      | (with_reducible refine LeO.ite ?_ ?_)
      | (with_reducible refine LeO.bind ?_ (fun _ => ?_))
      | exact ih0 _ _ _
      | exact laws_heldIntS.mono _ _ _
      | exact LeO.none _
      | refine LeO.ite ?_ ?_
      | refine LeO.bind ?_ (fun _ => ?_)
set_option maxHeartbeats 8000000 in
set_option maxRecDepth 100000 in
theorem laws_heldExtS.calls (k : Nat) (A0 : Option Addr) (c0 : Nat) (l0 : List (S61)) (a1 : Int) (r : Int) (w : World) (hr0 : Kd.C k61 w A0 l0.length l0) (hc0 : l0.length ≤ c0) (h : laws_heldExtS.f k l0 a1 = some r) :
    Calls Try.prog 38 #[.slice A0 l0.length c0, .int .i64 a1] w fun e w' => e = .returned (.int .i64 r) ∧ Drawn0 w w' := by
  have HR0 := Aside0.mk hr0
  have HC0 := Aside0.mk hc0
  clear hr0 hc0
  have H : (laws_heldExtS.l0 k l0 a1 0) = some r := h
  clear h
  have H' := Aside0.mk H
  clear H
  go_enter Try.func38, Try.ntmps38
  go_wp2
  go_loopg [1, 5] k (fun kq v1 v5 w' => ∃ (x1_1 : Int) (x5_1 : Int), v1 = .int .i64 x1_1 ∧ v5 = .int .i64 x5_1 ∧ Aside0 (laws_heldExtS.l0 kq l0 x1_1 x5_1 = some r) ∧ Aside0 (kq ≤ k) ∧ Drawn0 w w')
  case atStart => exact ⟨(a1), (0), (by first | rfl | (simp; done) | (simp [*]; done)), (by first | rfl | (simp; done) | (simp [*]; done)), H', ⟨Nat.le_refl _⟩, by repeat (first | exact Drawn0.refl _ | apply Drawn0.step)⟩
  case round =>
    clear H'
    try clear p2
    obtain ⟨x1_1, x5_1, rfl, rfl, HA, HK1, ⟨m1, rfl⟩⟩ := hrel
    cases gk with
    | zero => exact absurd HA.out (by simp [laws_heldExtS.l0])
    | succ k1 =>
      have H := HA.out
      clear HA
      simp only [laws_heldExtS.l0] at H
      by_cases c3 : x5_1 < (l0.length : Int)
      · rw [if_pos c3] at H
        have c3b0 : decide (x5_1 < (l0.length : Int)) = true := decide_eq_true c3
        clear c3
        by_cases c4 : 0 ≤ x5_1
        · rw [if_pos c4] at H
          have c4b0 : decide (0 ≤ x5_1) = true := decide_eq_true c4
          clear c4
          by_cases c5 : ((rd_T61 l0 x5_1).f0) = x1_1
          · rw [if_pos c5] at H
            have c5b0 : (((rd_T61 l0 x5_1).f0) == x1_1) = true := beq_iff_eq.mpr c5
            have c5b1 : (((rd_T61 l0 x5_1).f0) != x1_1) = false := bne_eq_false_iff_eq.mpr c5
            clear c5
            replace H := Option.bind_eq_some_iff.mp H
            obtain ⟨t171, A60, H⟩ := H
            replace H : (if t171 < 0 then (some (-1)) else (laws_heldExtS.l0 k1 l0 t171 (wrap64 (x5_1 + 1)))) = some r := H
            have A6 := Aside0.mk A60
            clear A60
            by_cases c7 : t171 < 0
            · rw [if_pos c7] at H
              have c7b0 : decide (t171 < 0) = true := decide_eq_true c7
              clear c7
              obtain rfl := Option.some.inj H
              have p169 : 0 ≤ (x5_1 : Int) := of_decide_eq_true (by first | (with_reducible assumption) | assumption)
              have q169 : x5_1 < (l0.length : Int) := of_decide_eq_true (by first | (with_reducible assumption) | assumption)
              obtain ⟨ad169, A169_1, c169_1, e169, hx169_0, hx169_1, hl169_1, hi169_1⟩ := at_T61 HR0.out x5_1 p169 q169
              cases e169
              have HR169_1 := Aside0.mk hi169_1
              have HC169_1 := Aside0.mk hl169_1
              clear hi169_1 hl169_1
              replace p169 := eq_true p169
              replace q169 := eq_true q169
              have p170 : 0 ≤ (x5_1 : Int) := of_decide_eq_true (by first | (with_reducible assumption) | assumption)
              have q170 : x5_1 < (l0.length : Int) := of_decide_eq_true (by first | (with_reducible assumption) | assumption)
              obtain ⟨ad170, A170_1, c170_1, e170, hx170_0, hx170_1, hl170_1, hi170_1⟩ := at_T61 HR0.out x5_1 p170 q170
              obtain rfl : ad169 = ad170 := (by injection e170)
              have HR170_1 := Aside0.mk hi170_1
              have HC170_1 := Aside0.mk hl170_1
              clear hi170_1 hl170_1
              replace p170 := eq_true p170
              replace q170 := eq_true q170
              have ea_ := Option.some.inj (hx169_1.symm.trans hx170_1)
              injection ea_ with ea_ en_ ec_
              subst ea_
              subst ec_
              clear en_
              go_wp2_with (first | ((with_reducible refine gate_callee (f := 31) rfl ?_); refine goesL_ (some 27) rfl rfl Try.func31 (by kernel_rfl) rfl #[.slice A169_1 ((rd_T61 l0 x5_1).f1).length c169_1, .int .i64 (wrap64 (x1_1 + 1))] rfl (by (try simp only [List.map_toArray, List.map_cons, List.map_nil]); first | done | rfl | (simp only [List.length_drop, List.length_take]; rfl)) ?_; (with_reducible refine (laws_heldIntS.calls k1 _ _ ((rd_T61 l0 x5_1).f1) (wrap64 (x1_1 + 1)) t171 _ ?side1 ?side2 A6.out).mono ?_); (case side1 => repeat (first | exact HR170_1.out | (with_reducible refine Kd.C_alloc ?_ _) | (with_reducible refine Kd.C_drewN ?_ _) | (with_reducible refine Kd.C_drew ?_))); (case side2 => exact HC170_1.out); rintro e w' ⟨rfl, ⟨nd, rfl⟩⟩; refine ⟨_, rfl, ?_⟩))
              go_ret
              exact ⟨by first | rfl | (simp; done) | (simp [*]; done), by repeat (first | exact Drawn0.refl _ | apply Drawn0.step)⟩
            · rw [if_neg c7] at H
              have c7b0 : decide (t171 < 0) = false := decide_eq_false c7
              clear c7
              have H' := Aside0.mk H
              clear H
              have p169 : 0 ≤ (x5_1 : Int) := of_decide_eq_true (by first | (with_reducible assumption) | assumption)
              have q169 : x5_1 < (l0.length : Int) := of_decide_eq_true (by first | (with_reducible assumption) | assumption)
              obtain ⟨ad169, A169_1, c169_1, e169, hx169_0, hx169_1, hl169_1, hi169_1⟩ := at_T61 HR0.out x5_1 p169 q169
              cases e169
              have HR169_1 := Aside0.mk hi169_1
              have HC169_1 := Aside0.mk hl169_1
              clear hi169_1 hl169_1
              replace p169 := eq_true p169
              replace q169 := eq_true q169
              have p170 : 0 ≤ (x5_1 : Int) := of_decide_eq_true (by first | (with_reducible assumption) | assumption)
              have q170 : x5_1 < (l0.length : Int) := of_decide_eq_true (by first | (with_reducible assumption) | assumption)
              obtain ⟨ad170, A170_1, c170_1, e170, hx170_0, hx170_1, hl170_1, hi170_1⟩ := at_T61 HR0.out x5_1 p170 q170
              obtain rfl : ad169 = ad170 := (by injection e170)
              have HR170_1 := Aside0.mk hi170_1
              have HC170_1 := Aside0.mk hl170_1
              clear hi170_1 hl170_1
              replace p170 := eq_true p170
              replace q170 := eq_true q170
              have ea_ := Option.some.inj (hx169_1.symm.trans hx170_1)
              injection ea_ with ea_ en_ ec_
              subst ea_
              subst ec_
              clear en_
              go_wp2_with (first | ((with_reducible refine gate_callee (f := 31) rfl ?_); refine goesL_ (some 27) rfl rfl Try.func31 (by kernel_rfl) rfl #[.slice A169_1 ((rd_T61 l0 x5_1).f1).length c169_1, .int .i64 (wrap64 (x1_1 + 1))] rfl (by (try simp only [List.map_toArray, List.map_cons, List.map_nil]); first | done | rfl | (simp only [List.length_drop, List.length_take]; rfl)) ?_; (with_reducible refine (laws_heldIntS.calls k1 _ _ ((rd_T61 l0 x5_1).f1) (wrap64 (x1_1 + 1)) t171 _ ?side1 ?side2 A6.out).mono ?_); (case side1 => repeat (first | exact HR170_1.out | (with_reducible refine Kd.C_alloc ?_ _) | (with_reducible refine Kd.C_drewN ?_ _) | (with_reducible refine Kd.C_drew ?_))); (case side2 => exact HC170_1.out); rintro e w' ⟨rfl, ⟨nd, rfl⟩⟩; refine ⟨_, rfl, ?_⟩))
              go_roundg k1
              case measure => have := HK1.out; omega
              case rel => exact ⟨(t171), (wrap64 (x5_1 + 1)), (by first | rfl | (simp; done) | (simp [*]; done)), (by first | rfl | (simp; done) | (simp [*]; done)), H', ⟨by have := HK1.out; omega⟩, by repeat (first | exact Drawn0.refl _ | apply Drawn0.step)⟩
          · rw [if_neg c5] at H
            have c5b0 : (((rd_T61 l0 x5_1).f0) == x1_1) = false := beq_eq_false_iff_ne.mpr c5
            have c5b1 : (((rd_T61 l0 x5_1).f0) != x1_1) = true := bne_iff_ne.mpr c5
            obtain rfl := Option.some.inj H
            have p169 : 0 ≤ (x5_1 : Int) := of_decide_eq_true (by first | (with_reducible assumption) | assumption)
            have q169 : x5_1 < (l0.length : Int) := of_decide_eq_true (by first | (with_reducible assumption) | assumption)
            obtain ⟨ad169, A169_1, c169_1, e169, hx169_0, hx169_1, hl169_1, hi169_1⟩ := at_T61 HR0.out x5_1 p169 q169
            cases e169
            have HR169_1 := Aside0.mk hi169_1
            have HC169_1 := Aside0.mk hl169_1
            clear hi169_1 hl169_1
            replace p169 := eq_true p169
            replace q169 := eq_true q169
            go_wp2
            go_ret
            exact ⟨by first | rfl | (simp; done) | (simp [*]; done), by repeat (first | exact Drawn0.refl _ | apply Drawn0.step)⟩
        · rw [if_neg c4] at H
          exact absurd H (by simp)
      · rw [if_neg c3] at H
        have c3b0 : decide (x5_1 < (l0.length : Int)) = false := decide_eq_false c3
        clear c3
        obtain rfl := Option.some.inj H
        go_wp2
        go_ret
        exact ⟨by first | rfl | (simp; done) | (simp [*]; done), by repeat (first | exact Drawn0.refl _ | apply Drawn0.step)⟩

/-! ### laws_FnExactStripGrease: function 9 -/
def laws_FnExactStripGrease.f (k : Nat) (l0 : List (S60)) : Option (Bool) := (laws_szExtS.f k l0 1048576).bind fun t172 => (if t172 < 0 then (some true) else ((laws_toExtS.f k l0).bind fun t173 => ((spec_StripGrease.f k t173).bind fun t176 => ((laws_toExtS.f k l0).bind fun t179 => ((impl_StripGrease.f k t179).bind fun t182 => ((laws_eqExtS.f k t182 t176).bind fun t185 => (if t185 = true then ((laws_toExtS.f k l0).bind fun t186 => ((laws_eqExtS.f k t179 t186).bind fun t189 => (if t189 = true then ((laws_markExtS.f k t179 1).bind fun bt190 => (if bt190.1 < 0 then (some false) else ((laws_eqExtS.f k t182 t176).bind fun t192 => (if t192 = true then ((laws_markExtS.f k t182 1).bind fun bt193 => ((laws_heldExtS.f k bt193.2 1).bind fun t195 => (if t195 < 0 then (some false) else (if t195 = bt193.1 then ((laws_toExtS.f k l0).bind fun t196 => ((impl_StripGrease.f k t196).bind fun t199 => ((laws_eqExtS.f k t199 t176).bind fun t202 => (if t202 = true then ((laws_heldExtS.f k bt193.2 1).bind fun t203 => (if t203 < 0 then (some false) else (if t203 = bt193.1 then (some true) else (some false)))) else (some false))))) else (some false))))) else (some false))))) else (some false)))) else (some false))))))))
set_option maxHeartbeats 8000000 in
set_option maxRecDepth 100000 in
theorem laws_FnExactStripGrease.calls (k : Nat) (A0 : Option Addr) (c0 : Nat) (l0 : List (S60)) (r : Bool) (w : World) (hr0 : Kd.C k60 w A0 l0.length l0) (hc0 : l0.length ≤ c0) (ht_ : r = true) (h : laws_FnExactStripGrease.f k l0 = some r) :
    Calls Try.prog 9 #[.slice A0 l0.length c0] w fun e w' => e = .returned (.bool r) ∧ Below w.heap.size w w' := by
  subst ht_
  have HR0 := Aside0.mk hr0
  have HC0 := Aside0.mk hc0
  clear hr0 hc0
  have H : ((laws_szExtS.f k l0 1048576).bind fun t172 => (if t172 < 0 then (some true) else ((laws_toExtS.f k l0).bind fun t173 => ((spec_StripGrease.f k t173).bind fun t176 => ((laws_toExtS.f k l0).bind fun t179 => ((impl_StripGrease.f k t179).bind fun t182 => ((laws_eqExtS.f k t182 t176).bind fun t185 => (if t185 = true then ((laws_toExtS.f k l0).bind fun t186 => ((laws_eqExtS.f k t179 t186).bind fun t189 => (if t189 = true then ((laws_markExtS.f k t179 1).bind fun bt190 => (if bt190.1 < 0 then (some false) else ((laws_eqExtS.f k t182 t176).bind fun t192 => (if t192 = true then ((laws_markExtS.f k t182 1).bind fun bt193 => ((laws_heldExtS.f k bt193.2 1).bind fun t195 => (if t195 < 0 then (some false) else (if t195 = bt193.1 then ((laws_toExtS.f k l0).bind fun t196 => ((impl_StripGrease.f k t196).bind fun t199 => ((laws_eqExtS.f k t199 t176).bind fun t202 => (if t202 = true then ((laws_heldExtS.f k bt193.2 1).bind fun t203 => (if t203 < 0 then (some false) else (if t203 = bt193.1 then (some true) else (some false)))) else (some false))))) else (some false))))) else (some false))))) else (some false)))) else (some false))))))))) = some true := h
  clear h
  obtain ⟨t172, A1, H⟩ := Option.bind_eq_some_iff.mp H
  have A1 := Aside0.mk A1
  by_cases c2 : t172 < 0
  · rw [if_pos c2] at H
    have f3 : decide (t172 < 0) = true := decide_eq_true c2
    have Cc2 := Aside0.mk c2
    clear c2
    clear H
    go_enter Try.func9, Try.ntmps9
    go_wp2_with fail
    refine calls_of_args (args' := #[.slice A0 l0.length c0, .int .i64 1048576]) (by first | rfl | rfl) ?_
    refine (laws_szExtS.calls (k := k) (l0 := l0) (hr0 := Kd.C_below HR0.out (Below.refl w.heap.size w)) (hc0 := HC0.out) (a1 := 1048576) (r := t172) (w := w) (h := A1.out)).mono ?_
    rintro e w4 ⟨rfl, hb⟩
    have s5 := Aside0.mk hb.size
    have HB6 := Aside0.mk (below_trans (Below.refl w.heap.size w) hb)
    clear hb
    go_wp2
    go_ret
    exact ⟨rfl, HB6.out⟩
  · rw [if_neg c2] at H
    have f7 : decide (t172 < 0) = false := decide_eq_false c2
    have Cc2 := Aside0.mk c2
    clear c2
    obtain ⟨t173, A8, H⟩ := Option.bind_eq_some_iff.mp H
    have A8 := Aside0.mk A8
    obtain ⟨t176, A9, H⟩ := Option.bind_eq_some_iff.mp H
    have A9 := Aside0.mk A9
    obtain ⟨t179, A10, H⟩ := Option.bind_eq_some_iff.mp H
    have A10 := Aside0.mk A10
    obtain ⟨t182, A11, H⟩ := Option.bind_eq_some_iff.mp H
    have A11 := Aside0.mk A11
    obtain ⟨t185, A12, H⟩ := Option.bind_eq_some_iff.mp H
    have A12 := Aside0.mk A12
    by_cases c13 : t185 = true
    · rw [if_pos c13] at H
      obtain rfl : t185 = true := by simpa using c13
      clear c13
      obtain ⟨t186, A14, H⟩ := Option.bind_eq_some_iff.mp H
      have A14 := Aside0.mk A14
      obtain ⟨t189, A15, H⟩ := Option.bind_eq_some_iff.mp H
      have A15 := Aside0.mk A15
      by_cases c16 : t189 = true
      · rw [if_pos c16] at H
        obtain rfl : t189 = true := by simpa using c16
        clear c16
        obtain ⟨⟨t190, t191⟩, A17, H⟩ := Option.bind_eq_some_iff.mp H
        dsimp only at H A17
        have A17 := Aside0.mk A17
        by_cases c18 : t190 < 0
        · rw [if_pos c18] at H
          exact absurd H (by simp)
        · rw [if_neg c18] at H
          have f19 : decide (t190 < 0) = false := decide_eq_false c18
          have Cc18 := Aside0.mk c18
          clear c18
          obtain ⟨t192, A20, H⟩ := Option.bind_eq_some_iff.mp H
          have A20 := Aside0.mk A20
          by_cases c21 : t192 = true
          · rw [if_pos c21] at H
            obtain rfl : t192 = true := by simpa using c21
            clear c21
            obtain ⟨⟨t193, t194⟩, A22, H⟩ := Option.bind_eq_some_iff.mp H
            dsimp only at H A22
            have A22 := Aside0.mk A22
            obtain ⟨t195, A23, H⟩ := Option.bind_eq_some_iff.mp H
            have A23 := Aside0.mk A23
            by_cases c24 : t195 < 0
            · rw [if_pos c24] at H
              exact absurd H (by simp)
            · rw [if_neg c24] at H
              have f25 : decide (t195 < 0) = false := decide_eq_false c24
              have Cc24 := Aside0.mk c24
              clear c24
              by_cases c26 : t195 = t193
              · rw [if_pos c26] at H
                have f27 : (t195 == t193) = true := beq_iff_eq.mpr c26
                have f28 : (t195 != t193) = false := bne_eq_false_iff_eq.mpr c26
                have Cc26 := Aside0.mk c26
                clear c26
                obtain ⟨t196, A29, H⟩ := Option.bind_eq_some_iff.mp H
                have A29 := Aside0.mk A29
                obtain ⟨t199, A30, H⟩ := Option.bind_eq_some_iff.mp H
                have A30 := Aside0.mk A30
                obtain ⟨t202, A31, H⟩ := Option.bind_eq_some_iff.mp H
                have A31 := Aside0.mk A31
                by_cases c32 : t202 = true
                · rw [if_pos c32] at H
                  obtain rfl : t202 = true := by simpa using c32
                  clear c32
                  obtain ⟨t203, A33, H⟩ := Option.bind_eq_some_iff.mp H
                  have A33 := Aside0.mk A33
                  by_cases c34 : t203 < 0
                  · rw [if_pos c34] at H
                    exact absurd H (by simp)
                  · rw [if_neg c34] at H
                    have f35 : decide (t203 < 0) = false := decide_eq_false c34
                    have Cc34 := Aside0.mk c34
                    clear c34
                    by_cases c36 : t203 = t193
                    · rw [if_pos c36] at H
                      have f37 : (t203 == t193) = true := beq_iff_eq.mpr c36
                      have f38 : (t203 != t193) = false := bne_eq_false_iff_eq.mpr c36
                      have Cc36 := Aside0.mk c36
                      clear c36
                      clear H
                      go_enter Try.func9, Try.ntmps9
                      go_wp2_with fail
                      refine calls_of_args (args' := #[.slice A0 l0.length c0, .int .i64 1048576]) (by first | rfl | rfl) ?_
                      refine (laws_szExtS.calls (k := k) (l0 := l0) (hr0 := Kd.C_below HR0.out (Below.refl w.heap.size w)) (hc0 := HC0.out) (a1 := 1048576) (r := t172) (w := w) (h := A1.out)).mono ?_
                      rintro e w39 ⟨rfl, hb⟩
                      have s40 := Aside0.mk hb.size
                      have HB41 := Aside0.mk (below_trans (Below.refl w.heap.size w) hb)
                      clear hb
                      go_wp2_with fail
                      refine calls_of_args (args' := #[.slice A0 l0.length c0]) (by first | rfl | rfl) ?_
                      refine (laws_toExtS.calls (k := k) (l0 := l0) (hr0 := Kd.C_below HR0.out HB41.out) (hc0 := HC0.out) (r := t173) (w := w39) (h := A8.out)).mono ?_
                      rintro e w42 ⟨v174, rfl, ho0, hb⟩
                      have s43 := Aside0.mk hb.size
                      have HO45 := Aside0.mk (Kd.S_lower (Kd.S_mono (ok' := fun k_ => (w39.heap.size ≤ k_ ∧ k_ < w42.heap.size)) (Kd.S_bound ho0) (fun k_ hk_ => by have h1_ := hk_.2.1; have h2_ := hk_.2.2.1; omega)) (by have := s40.out; have := s43.out; omega : w.heap.size ≤ w39.heap.size))
                      clear ho0
                      obtain ⟨Ao46, co47, eq_⟩ := Kd.S_slice HO45.out
                      subst eq_
                      have HB44 := Aside0.mk (below_trans HB41.out hb)
                      clear hb
                      go_wp2_with fail
                      refine calls_of_args (args' := #[.slice Ao46 t173.length co47]) (by first | rfl | rfl) ?_
                      refine (spec_StripGrease.calls (k := k) (l0 := t173) (A0 := Ao46) (c0 := co47) (hr0 := (Kd.S_reads' HO45.out).2.2) (hc0 := by have h_ := Kd.S_reads' HO45.out; omega) (r := t176) (w := w42) (h := A9.out)).mono ?_
                      rintro e w48 ⟨v177, rfl, ho0, hb⟩
                      have s49 := Aside0.mk hb.size
                      have HO51 := Aside0.mk (Kd.S_below HO45.out hb)
                      clear HO45
                      have HO52 := Aside0.mk (Kd.S_lower (Kd.S_mono (ok' := fun k_ => (w42.heap.size ≤ k_ ∧ k_ < w48.heap.size)) (Kd.S_bound ho0) (fun k_ hk_ => by have h1_ := hk_.2.1; have h2_ := hk_.2.2.1; omega)) (by have := s40.out; have := s43.out; have := s49.out; omega : w.heap.size ≤ w42.heap.size))
                      clear ho0
                      obtain ⟨Ao53, co54, eq_⟩ := Kd.S_slice HO52.out
                      subst eq_
                      have HB50 := Aside0.mk (below_trans HB44.out hb)
                      clear hb
                      go_wp2_with fail
                      refine calls_of_args (args' := #[.slice A0 l0.length c0]) (by first | rfl | rfl) ?_
                      refine (laws_toExtS.calls (k := k) (l0 := l0) (hr0 := Kd.C_below HR0.out HB50.out) (hc0 := HC0.out) (r := t179) (w := w48) (h := A10.out)).mono ?_
                      rintro e w55 ⟨v180, rfl, ho0, hb⟩
                      have s56 := Aside0.mk hb.size
                      have HO58 := Aside0.mk (Kd.S_below HO51.out hb)
                      clear HO51
                      have HO59 := Aside0.mk (Kd.S_below HO52.out hb)
                      clear HO52
                      have HO60 := Aside0.mk (Kd.S_lower (Kd.S_mono (ok' := fun k_ => (w48.heap.size ≤ k_ ∧ k_ < w55.heap.size)) (Kd.S_bound ho0) (fun k_ hk_ => by have h1_ := hk_.2.1; have h2_ := hk_.2.2.1; omega)) (by have := s40.out; have := s43.out; have := s49.out; have := s56.out; omega : w.heap.size ≤ w48.heap.size))
                      clear ho0
                      obtain ⟨Ao61, co62, eq_⟩ := Kd.S_slice HO60.out
                      subst eq_
                      have HB57 := Aside0.mk (below_trans HB50.out hb)
                      clear hb
                      go_wp2_with fail
                      refine calls_of_args (args' := #[.slice Ao61 t179.length co62]) (by first | rfl | rfl) ?_
                      refine (impl_StripGrease.calls (k := k) (l0 := t179) (A0 := Ao61) (c0 := co62) (hr0 := (Kd.S_reads' HO60.out).2.2) (hc0 := by have h_ := Kd.S_reads' HO60.out; omega) (r := t182) (w := w55) (h := A11.out)).mono ?_
                      rintro e w63 ⟨v183, rfl, ho0, hb⟩
                      have s64 := Aside0.mk hb.size
                      have HO66 := Aside0.mk (Kd.S_below HO58.out hb)
                      clear HO58
                      have HO67 := Aside0.mk (Kd.S_below HO59.out hb)
                      clear HO59
                      have HO68 := Aside0.mk (Kd.S_below HO60.out hb)
                      clear HO60
                      have HO69 := Aside0.mk (Kd.S_lower (Kd.S_mono (ok' := fun k_ => (w55.heap.size ≤ k_ ∧ k_ < w63.heap.size)) (Kd.S_bound ho0) (fun k_ hk_ => by have h1_ := hk_.2.1; have h2_ := hk_.2.2.1; omega)) (by have := s40.out; have := s43.out; have := s49.out; have := s56.out; have := s64.out; omega : w.heap.size ≤ w55.heap.size))
                      clear ho0
                      obtain ⟨Ao70, co71, eq_⟩ := Kd.S_slice HO69.out
                      subst eq_
                      have HB65 := Aside0.mk (below_trans HB57.out hb)
                      clear hb
                      go_wp2_with fail
                      refine calls_of_args (args' := #[.slice Ao70 t182.length co71, .slice Ao53 t176.length co54]) (by first | rfl | rfl) ?_
                      refine (laws_eqExtS.calls (k := k) (l0 := t182) (A0 := Ao70) (c0 := co71) (hr0 := (Kd.S_reads' HO69.out).2.2) (hc0 := by have h_ := Kd.S_reads' HO69.out; omega) (l1 := t176) (A1 := Ao53) (c1 := co54) (hr1 := (Kd.S_reads' HO67.out).2.2) (hc1 := by have h_ := Kd.S_reads' HO67.out; omega) (r := true) (w := w63) (h := A12.out)).mono ?_
                      rintro e w72 ⟨rfl, hb⟩
                      have s73 := Aside0.mk hb.size
                      have HO75 := Aside0.mk (Kd.S_below HO66.out hb)
                      clear HO66
                      have HO76 := Aside0.mk (Kd.S_below HO67.out hb)
                      clear HO67
                      have HO77 := Aside0.mk (Kd.S_below HO68.out hb)
                      clear HO68
                      have HO78 := Aside0.mk (Kd.S_below HO69.out hb)
                      clear HO69
                      have HB74 := Aside0.mk (below_trans HB65.out hb)
                      clear hb
                      go_wp2_with fail
                      refine calls_of_args (args' := #[.slice A0 l0.length c0]) (by first | rfl | rfl) ?_
                      refine (laws_toExtS.calls (k := k) (l0 := l0) (hr0 := Kd.C_below HR0.out HB74.out) (hc0 := HC0.out) (r := t186) (w := w72) (h := A14.out)).mono ?_
                      rintro e w79 ⟨v187, rfl, ho0, hb⟩
                      have s80 := Aside0.mk hb.size
                      have HO82 := Aside0.mk (Kd.S_below HO75.out hb)
                      clear HO75
                      have HO83 := Aside0.mk (Kd.S_below HO76.out hb)
                      clear HO76
                      have HO84 := Aside0.mk (Kd.S_below HO77.out hb)
                      clear HO77
                      have HO85 := Aside0.mk (Kd.S_below HO78.out hb)
                      clear HO78
                      have HO86 := Aside0.mk (Kd.S_lower (Kd.S_mono (ok' := fun k_ => (w72.heap.size ≤ k_ ∧ k_ < w79.heap.size)) (Kd.S_bound ho0) (fun k_ hk_ => by have h1_ := hk_.2.1; have h2_ := hk_.2.2.1; omega)) (by have := s40.out; have := s43.out; have := s49.out; have := s56.out; have := s64.out; have := s73.out; have := s80.out; omega : w.heap.size ≤ w72.heap.size))
                      clear ho0
                      obtain ⟨Ao87, co88, eq_⟩ := Kd.S_slice HO86.out
                      subst eq_
                      have HB81 := Aside0.mk (below_trans HB74.out hb)
                      clear hb
                      go_wp2_with fail
                      refine calls_of_args (args' := #[.slice Ao61 t179.length co62, .slice Ao87 t186.length co88]) (by first | rfl | rfl) ?_
                      refine (laws_eqExtS.calls (k := k) (l0 := t179) (A0 := Ao61) (c0 := co62) (hr0 := (Kd.S_reads' HO84.out).2.2) (hc0 := by have h_ := Kd.S_reads' HO84.out; omega) (l1 := t186) (A1 := Ao87) (c1 := co88) (hr1 := (Kd.S_reads' HO86.out).2.2) (hc1 := by have h_ := Kd.S_reads' HO86.out; omega) (r := true) (w := w79) (h := A15.out)).mono ?_
                      rintro e w89 ⟨rfl, hb⟩
                      have s90 := Aside0.mk hb.size
                      have HO92 := Aside0.mk (Kd.S_below HO82.out hb)
                      clear HO82
                      have HO93 := Aside0.mk (Kd.S_below HO83.out hb)
                      clear HO83
                      have HO94 := Aside0.mk (Kd.S_below HO84.out hb)
                      clear HO84
                      have HO95 := Aside0.mk (Kd.S_below HO85.out hb)
                      clear HO85
                      have HO96 := Aside0.mk (Kd.S_below HO86.out hb)
                      clear HO86
                      have HB91 := Aside0.mk (below_trans HB81.out hb)
                      clear hb
                      go_wp2_with fail
                      refine calls_of_args (args' := #[.slice Ao61 t179.length co62, .int .i64 1]) (by first | rfl | rfl) ?_
                      refine (laws_markExtS.calls (k := k) (l0 := t179) (P0_ := fun k_ => (w48.heap.size ≤ k_ ∧ k_ < w55.heap.size)) (u9000_ := .slice Ao61 t179.length co62) (ho0 := HO94.out) (a1 := 1) (r1 := t190) (r2 := t191) (w := w89) (w0 := w) (hB := HB91.out) (h := A17.out)).mono ?_
                      rintro e w97 ⟨rfl, hy0, hb, hkp⟩
                      have s98 := Aside0.mk hkp.1
                      have HB99 := Aside0.mk hb
                      have HO100 := Aside0.mk (Kd.S_kept HO92.out hkp (fun k_ hk_ hs_ => by have := s40.out; have := s43.out; have := s49.out; have := s56.out; have := s64.out; have := s73.out; have := s80.out; have := s90.out; have := s98.out; omega))
                      clear HO92
                      have HO101 := Aside0.mk (Kd.S_kept HO93.out hkp (fun k_ hk_ hs_ => by have := s40.out; have := s43.out; have := s49.out; have := s56.out; have := s64.out; have := s73.out; have := s80.out; have := s90.out; have := s98.out; omega))
                      clear HO93
                      have HO102 := Aside0.mk (Kd.S_kept HO95.out hkp (fun k_ hk_ hs_ => by have := s40.out; have := s43.out; have := s49.out; have := s56.out; have := s64.out; have := s73.out; have := s80.out; have := s90.out; have := s98.out; omega))
                      clear HO95
                      have HO103 := Aside0.mk (Kd.S_kept HO96.out hkp (fun k_ hk_ hs_ => by have := s40.out; have := s43.out; have := s49.out; have := s56.out; have := s64.out; have := s73.out; have := s80.out; have := s90.out; have := s98.out; omega))
                      clear HO96
                      have HO104 := Aside0.mk (Kd.S_mono (ok' := fun k_ => (w48.heap.size ≤ k_ ∧ k_ < w55.heap.size) ∨ (w89.heap.size ≤ k_ ∧ k_ < w97.heap.size)) (Kd.S_bound hy0) (fun k_ hk_ => by have h1_ := hk_.1; have h2_ := hk_.2.2.1; have := s40.out; have := s43.out; have := s49.out; have := s56.out; have := s64.out; have := s73.out; have := s80.out; have := s90.out; have := s98.out; omega))
                      clear HO94
                      clear hb hkp hy0
                      go_wp2_with fail
                      refine calls_of_args (args' := #[.slice Ao70 t182.length co71, .slice Ao53 t176.length co54]) (by first | rfl | (rw [← (Kd.S_reads' HO104.out).1])) ?_
                      refine (laws_eqExtS.calls (k := k) (l0 := t182) (A0 := Ao70) (c0 := co71) (hr0 := (Kd.S_reads' HO102.out).2.2) (hc0 := by have h_ := Kd.S_reads' HO102.out; omega) (l1 := t176) (A1 := Ao53) (c1 := co54) (hr1 := (Kd.S_reads' HO101.out).2.2) (hc1 := by have h_ := Kd.S_reads' HO101.out; omega) (r := true) (w := w97) (h := A20.out)).mono ?_
                      rintro e w105 ⟨rfl, hb⟩
                      have s106 := Aside0.mk hb.size
                      have HO108 := Aside0.mk (Kd.S_below HO100.out hb)
                      clear HO100
                      have HO109 := Aside0.mk (Kd.S_below HO101.out hb)
                      clear HO101
                      have HO110 := Aside0.mk (Kd.S_below HO104.out hb)
                      clear HO104
                      have HO111 := Aside0.mk (Kd.S_below HO102.out hb)
                      clear HO102
                      have HO112 := Aside0.mk (Kd.S_below HO103.out hb)
                      clear HO103
                      have HB107 := Aside0.mk (below_trans HB99.out hb)
                      clear hb
                      go_wp2_with fail
                      refine calls_of_args (args' := #[.slice Ao70 t182.length co71, .int .i64 1]) (by first | rfl | (rw [← (Kd.S_reads' HO110.out).1])) ?_
                      refine (laws_markExtS.calls (k := k) (l0 := t182) (P0_ := fun k_ => (w55.heap.size ≤ k_ ∧ k_ < w63.heap.size)) (u9000_ := .slice Ao70 t182.length co71) (ho0 := HO111.out) (a1 := 1) (r1 := t193) (r2 := t194) (w := w105) (w0 := w) (hB := HB107.out) (h := A22.out)).mono ?_
                      rintro e w113 ⟨rfl, hy0, hb, hkp⟩
                      have s114 := Aside0.mk hkp.1
                      have HB115 := Aside0.mk hb
                      have HO116 := Aside0.mk (Kd.S_kept HO108.out hkp (fun k_ hk_ hs_ => by have := s40.out; have := s43.out; have := s49.out; have := s56.out; have := s64.out; have := s73.out; have := s80.out; have := s90.out; have := s98.out; have := s106.out; have := s114.out; omega))
                      clear HO108
                      have HO117 := Aside0.mk (Kd.S_kept HO109.out hkp (fun k_ hk_ hs_ => by have := s40.out; have := s43.out; have := s49.out; have := s56.out; have := s64.out; have := s73.out; have := s80.out; have := s90.out; have := s98.out; have := s106.out; have := s114.out; omega))
                      clear HO109
                      have HO118 := Aside0.mk (Kd.S_kept HO110.out hkp (fun k_ hk_ hs_ => by have := s40.out; have := s43.out; have := s49.out; have := s56.out; have := s64.out; have := s73.out; have := s80.out; have := s90.out; have := s98.out; have := s106.out; have := s114.out; omega))
                      clear HO110
                      have HO119 := Aside0.mk (Kd.S_kept HO112.out hkp (fun k_ hk_ hs_ => by have := s40.out; have := s43.out; have := s49.out; have := s56.out; have := s64.out; have := s73.out; have := s80.out; have := s90.out; have := s98.out; have := s106.out; have := s114.out; omega))
                      clear HO112
                      have HO120 := Aside0.mk (Kd.S_mono (ok' := fun k_ => (w55.heap.size ≤ k_ ∧ k_ < w63.heap.size) ∨ (w105.heap.size ≤ k_ ∧ k_ < w113.heap.size)) (Kd.S_bound hy0) (fun k_ hk_ => by have h1_ := hk_.1; have h2_ := hk_.2.2.1; have := s40.out; have := s43.out; have := s49.out; have := s56.out; have := s64.out; have := s73.out; have := s80.out; have := s90.out; have := s98.out; have := s106.out; have := s114.out; omega))
                      clear HO111
                      clear hb hkp hy0
                      go_wp2_with fail
                      refine calls_of_args (args' := #[.slice Ao70 t194.length co71, .int .i64 1]) (by first | rfl | (rw [← (Kd.S_reads' HO118.out).1]) | (rw [← (Kd.S_reads' HO120.out).1])) ?_
                      refine (laws_heldExtS.calls (k := k) (l0 := t194) (A0 := Ao70) (c0 := co71) (hr0 := (Kd.S_reads' HO120.out).2.2) (hc0 := by have h_ := Kd.S_reads' HO120.out; omega) (a1 := 1) (r := t195) (w := w113) (h := A23.out)).mono ?_
                      rintro e w121 ⟨rfl, hd_⟩
                      have hb := hd_.below
                      clear hd_
                      have s122 := Aside0.mk hb.size
                      have HO124 := Aside0.mk (Kd.S_below HO116.out hb)
                      clear HO116
                      have HO125 := Aside0.mk (Kd.S_below HO117.out hb)
                      clear HO117
                      have HO126 := Aside0.mk (Kd.S_below HO118.out hb)
                      clear HO118
                      have HO127 := Aside0.mk (Kd.S_below HO120.out hb)
                      clear HO120
                      have HO128 := Aside0.mk (Kd.S_below HO119.out hb)
                      clear HO119
                      have HB123 := Aside0.mk (below_trans HB115.out hb)
                      clear hb
                      go_wp2_with fail
                      refine calls_of_args (args' := #[.slice A0 l0.length c0]) (by first | rfl | (rw [← (Kd.S_reads' HO126.out).1]) | (rw [← (Kd.S_reads' HO127.out).1])) ?_
                      refine (laws_toExtS.calls (k := k) (l0 := l0) (hr0 := Kd.C_below HR0.out HB123.out) (hc0 := HC0.out) (r := t196) (w := w121) (h := A29.out)).mono ?_
                      rintro e w129 ⟨v197, rfl, ho0, hb⟩
                      have s130 := Aside0.mk hb.size
                      have HO132 := Aside0.mk (Kd.S_below HO124.out hb)
                      clear HO124
                      have HO133 := Aside0.mk (Kd.S_below HO125.out hb)
                      clear HO125
                      have HO134 := Aside0.mk (Kd.S_below HO126.out hb)
                      clear HO126
                      have HO135 := Aside0.mk (Kd.S_below HO127.out hb)
                      clear HO127
                      have HO136 := Aside0.mk (Kd.S_below HO128.out hb)
                      clear HO128
                      have HO137 := Aside0.mk (Kd.S_lower (Kd.S_mono (ok' := fun k_ => (w121.heap.size ≤ k_ ∧ k_ < w129.heap.size)) (Kd.S_bound ho0) (fun k_ hk_ => by have h1_ := hk_.2.1; have h2_ := hk_.2.2.1; omega)) (by have := s40.out; have := s43.out; have := s49.out; have := s56.out; have := s64.out; have := s73.out; have := s80.out; have := s90.out; have := s98.out; have := s106.out; have := s114.out; have := s122.out; have := s130.out; omega : w.heap.size ≤ w121.heap.size))
                      clear ho0
                      obtain ⟨Ao138, co139, eq_⟩ := Kd.S_slice HO137.out
                      subst eq_
                      have HB131 := Aside0.mk (below_trans HB123.out hb)
                      clear hb
                      go_wp2_with fail
                      refine calls_of_args (args' := #[.slice Ao138 t196.length co139]) (by first | rfl | (rw [← (Kd.S_reads' HO134.out).1]) | (rw [← (Kd.S_reads' HO135.out).1])) ?_
                      refine (impl_StripGrease.calls (k := k) (l0 := t196) (A0 := Ao138) (c0 := co139) (hr0 := (Kd.S_reads' HO137.out).2.2) (hc0 := by have h_ := Kd.S_reads' HO137.out; omega) (r := t199) (w := w129) (h := A30.out)).mono ?_
                      rintro e w140 ⟨v200, rfl, ho0, hb⟩
                      have s141 := Aside0.mk hb.size
                      have HO143 := Aside0.mk (Kd.S_below HO132.out hb)
                      clear HO132
                      have HO144 := Aside0.mk (Kd.S_below HO133.out hb)
                      clear HO133
                      have HO145 := Aside0.mk (Kd.S_below HO134.out hb)
                      clear HO134
                      have HO146 := Aside0.mk (Kd.S_below HO135.out hb)
                      clear HO135
                      have HO147 := Aside0.mk (Kd.S_below HO136.out hb)
                      clear HO136
                      have HO148 := Aside0.mk (Kd.S_below HO137.out hb)
                      clear HO137
                      have HO149 := Aside0.mk (Kd.S_lower (Kd.S_mono (ok' := fun k_ => (w129.heap.size ≤ k_ ∧ k_ < w140.heap.size)) (Kd.S_bound ho0) (fun k_ hk_ => by have h1_ := hk_.2.1; have h2_ := hk_.2.2.1; omega)) (by have := s40.out; have := s43.out; have := s49.out; have := s56.out; have := s64.out; have := s73.out; have := s80.out; have := s90.out; have := s98.out; have := s106.out; have := s114.out; have := s122.out; have := s130.out; have := s141.out; omega : w.heap.size ≤ w129.heap.size))
                      clear ho0
                      obtain ⟨Ao150, co151, eq_⟩ := Kd.S_slice HO149.out
                      subst eq_
                      have HB142 := Aside0.mk (below_trans HB131.out hb)
                      clear hb
                      go_wp2_with fail
                      refine calls_of_args (args' := #[.slice Ao150 t199.length co151, .slice Ao53 t176.length co54]) (by first | rfl | (rw [← (Kd.S_reads' HO145.out).1]) | (rw [← (Kd.S_reads' HO146.out).1])) ?_
                      refine (laws_eqExtS.calls (k := k) (l0 := t199) (A0 := Ao150) (c0 := co151) (hr0 := (Kd.S_reads' HO149.out).2.2) (hc0 := by have h_ := Kd.S_reads' HO149.out; omega) (l1 := t176) (A1 := Ao53) (c1 := co54) (hr1 := (Kd.S_reads' HO144.out).2.2) (hc1 := by have h_ := Kd.S_reads' HO144.out; omega) (r := true) (w := w140) (h := A31.out)).mono ?_
                      rintro e w152 ⟨rfl, hb⟩
                      have s153 := Aside0.mk hb.size
                      have HO155 := Aside0.mk (Kd.S_below HO143.out hb)
                      clear HO143
                      have HO156 := Aside0.mk (Kd.S_below HO144.out hb)
                      clear HO144
                      have HO157 := Aside0.mk (Kd.S_below HO145.out hb)
                      clear HO145
                      have HO158 := Aside0.mk (Kd.S_below HO146.out hb)
                      clear HO146
                      have HO159 := Aside0.mk (Kd.S_below HO147.out hb)
                      clear HO147
                      have HO160 := Aside0.mk (Kd.S_below HO148.out hb)
                      clear HO148
                      have HO161 := Aside0.mk (Kd.S_below HO149.out hb)
                      clear HO149
                      have HB154 := Aside0.mk (below_trans HB142.out hb)
                      clear hb
                      go_wp2_with fail
                      refine calls_of_args (args' := #[.slice Ao70 t194.length co71, .int .i64 1]) (by first | rfl | (rw [← (Kd.S_reads' HO157.out).1]) | (rw [← (Kd.S_reads' HO158.out).1])) ?_
                      refine (laws_heldExtS.calls (k := k) (l0 := t194) (A0 := Ao70) (c0 := co71) (hr0 := (Kd.S_reads' HO158.out).2.2) (hc0 := by have h_ := Kd.S_reads' HO158.out; omega) (a1 := 1) (r := t203) (w := w152) (h := A33.out)).mono ?_
                      rintro e w162 ⟨rfl, hd_⟩
                      have hb := hd_.below
                      clear hd_
                      have s163 := Aside0.mk hb.size
                      have HO165 := Aside0.mk (Kd.S_below HO155.out hb)
                      clear HO155
                      have HO166 := Aside0.mk (Kd.S_below HO156.out hb)
                      clear HO156
                      have HO167 := Aside0.mk (Kd.S_below HO157.out hb)
                      clear HO157
                      have HO168 := Aside0.mk (Kd.S_below HO158.out hb)
                      clear HO158
                      have HO169 := Aside0.mk (Kd.S_below HO159.out hb)
                      clear HO159
                      have HO170 := Aside0.mk (Kd.S_below HO160.out hb)
                      clear HO160
                      have HO171 := Aside0.mk (Kd.S_below HO161.out hb)
                      clear HO161
                      have HB164 := Aside0.mk (below_trans HB154.out hb)
                      clear hb
                      go_wp2
                      go_ret
                      exact ⟨rfl, HB164.out⟩
                    · rw [if_neg c36] at H
                      exact absurd H (by simp)
                · rw [if_neg c32] at H
                  exact absurd H (by simp)
              · rw [if_neg c26] at H
                exact absurd H (by simp)
          · rw [if_neg c21] at H
            exact absurd H (by simp)
      · rw [if_neg c16] at H
        exact absurd H (by simp)
    · rw [if_neg c13] at H
      exact absurd H (by simp)

/-- What is known of a value of type 60 that came in. -/
def W60 (x : S60) : Prop := (Lit.int .i64 x.f0).wf = true ∧ (x.f1.length ≤ 9223372036854775807 ∧ ∀ y ∈ x.f1, (Lit.int .i64 y).wf = true)

/-- The pure statement of laws_FnExactStripGrease. -/
def laws_FnExactStripGrease.Pure : Prop := ∀ (l0 : List (S60)), l0.length ≤ 9223372036854775807 → (∀ x ∈ l0, W60 x) → ∃ k, laws_FnExactStripGrease.f k l0 = some true

end Go.Proofs.Ytljoejddjendbaa.PFnExactStripGrease
