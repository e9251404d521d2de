-- WRITTEN by pp.py, this session's own wrapper around the print; not trusted: Lean checks it
import Derived.Test.YtfibjclnaeocbaaPFnChainx0
import Derived.Test.YtfibjclnaeocbaaPFnChainx4
import Derived.Test.YtfibjclnaeocbaaPFnChainx11
namespace Go.Proofs.Ytfibjclnaeocbaa.PFnChain
open Go.RowKit Go.Proofs.Ytfibjclnaeocbaa.Hw Go.Proofs.YtfibjclnaeocbaaW.PrintWords Go.Proofs.YtfibjclnaeocbaaW.PrintLast Go.Proofs.YtfibjclnaeocbaaW.PrintMore
attribute [local go_sem] max2_int min2_int max_two min_two max_three min_three max_four min_four   -- for this text's walks alone
set_option linter.unusedVariables false
set_option linter.unusedSimpArgs false
set_option linter.unusedSectionVars false

/-! ### spec_l9Has: function 76 -/
def spec_l9Has.l0 : Nat → List Int → Int → Int → Option (Bool)
 | 0, _, _, _ => none
 | k + 1, x0, x1, x5 => if x5 < (x0.length : Int) then (if 0 ≤ x5 then (if (rd x0 x5) = x1 then (some true) else (spec_l9Has.l0 k x0 x1 (wrap64 (x5 + 1)))) else (none)) else (some false)
def spec_l9Has.f (k : Nat) (l0 : List Int) (a1 : Int) : Option (Bool) := spec_l9Has.l0 k l0 a1 0
theorem spec_l9Has.mono_l : ∀ k, (∀ y0 y1 y2, LeO (spec_l9Has.l0 k y0 y1 y2) (spec_l9Has.l0 (k + 1) y0 y1 y2))
 | 0 => fun _ _ _ r h => by simp [spec_l9Has.l0] at h
 | k + 1 => by
  have ih0 := spec_l9Has.mono_l k
  ·intro y0 y1 y2
   unfold spec_l9Has.l0
   repeat' first
   | (with_reducible exact ih0 _ _ _)
   | (with_reducible exact LeO.refl _)
   | (with_reducible exact LeO.none _)
   | (with_reducible refine LeO.ite ?_ ?_)
   | (with_reducible refine LeO.bind ?_ (fun _ => ?_))
   | exact ih0 _ _ _
   | exact LeO.none _
   | refine LeO.ite ?_ ?_
   | refine LeO.bind ?_ (fun _ => ?_)
theorem spec_l9Has.mono : ∀ a0 a1 k, LeO (spec_l9Has.f k a0 a1) (spec_l9Has.f (k + 1) a0 a1) := by
 intro a0 a1 k
 have ih0 := spec_l9Has.mono_l k
 unfold spec_l9Has.f
 repeat' first
   | (with_reducible exact ih0 _ _ _)
   | (with_reducible exact LeO.refl _)
   | (with_reducible exact LeO.none _)
   | (with_reducible refine LeO.ite ?_ ?_)
   | (with_reducible refine LeO.bind ?_ (fun _ => ?_))
   | exact ih0 _ _ _
   | exact LeO.none _
   | refine LeO.ite ?_ ?_
   | refine LeO.bind ?_ (fun _ => ?_)
set_option maxHeartbeats 8000000 in
set_option maxRecDepth 100000 in
theorem spec_l9Has.calls (k : Nat) (A0 : Option Addr) (c0 : Nat) (l0 : List Int) (a1 : Int) (r : Bool) (w : World) (hr0 : Kd.C (Kd.int .i64) w A0 l0.length l0) (hc0 : l0.length ≤ c0) (h : spec_l9Has.f k l0 a1 = some r) :
  Calls Try.prog 76 #[.slice A0 l0.length c0, .int .i64 a1] w fun e w' => e = .returned (.bool r) ∧ Drawn0 w w' := by
 have HR0 := Aside0.mk hr0
 have HC0 := Aside0.mk hc0
 clear hr0 hc0
 have H : (spec_l9Has.l0 k l0 a1 0) = some r := h
 clear h
 have H' := Aside0.mk H
 clear H
 go_enter Try.func76, Try.ntmps76
 go_wp2
 go_loopg [5] k (fun kq v5 w' => ∃ (x5_1 : Int), v5 = .int .i64 x5_1 ∧ Aside0 (spec_l9Has.l0 kq l0 a1 x5_1 = some r) ∧ Aside0 (kq ≤ k) ∧ Drawn0 w w')
 case atStart => exact ⟨(0), zF, H', ⟨Nat.le_refl _⟩, by repeat (first | exact Drawn0.refl _ | apply Drawn0.step)⟩
 case round =>
  clear H'
  try clear p2
  obtain ⟨x5_1, rfl, HA, HK1, ⟨m1, rfl⟩⟩ := hrel
  cases gk with
  | zero => exact absurd HA.out (by simp [spec_l9Has.l0])
  | succ k1 =>
   have H := HA.out
   clear HA
   simp only [spec_l9Has.l0] at H
   by_cases c3 : x5_1 < (l0.length : Int)
   ·rw [if_pos c3] at H
    have c3b0 : decide (x5_1 < (l0.length : Int)) = true := decide_eq_true c3
    clear c3
    obtain ⟨c4, H⟩ := ifS H
    have c4b0 : decide (0 ≤ x5_1) = true := decide_eq_true c4
    clear c4
    by_cases c5 : (rd l0 x5_1) = a1
    ·rw [if_pos c5] at H
     have c5b0 : ((rd l0 x5_1) == a1) = true := beq_iff_eq.mpr c5
     have c5b1 : ((rd l0 x5_1) != a1) = false := bne_eq_false_iff_eq.mpr c5
     clear c5
     obtain rfl := Option.some.inj H
     have p490 : 0 ≤ (x5_1 : Int) := zD
     have q490 : x5_1 < (l0.length : Int) := zD
     obtain ⟨ad490, e490, hx490_0⟩ := Kd.at_int HR0.out x5_1 p490 q490
     cases e490
     replace p490 := eq_true p490
     replace q490 := eq_true q490
     go_wp2
     go_ret
     exact ⟨by first | rfl | (simp; done) | (simp [*]; done), by repeat (first | exact Drawn0.refl _ | apply Drawn0.step)⟩
    ·rw [if_neg c5] at H
     have c5b0 : ((rd l0 x5_1) == a1) = false := beq_eq_false_iff_ne.mpr c5
     have c5b1 : ((rd l0 x5_1) != a1) = true := bne_iff_ne.mpr c5
     have H' := Aside0.mk H
     clear H
     have p490 : 0 ≤ (x5_1 : Int) := zD
     have q490 : x5_1 < (l0.length : Int) := zD
     obtain ⟨ad490, e490, hx490_0⟩ := Kd.at_int HR0.out x5_1 p490 q490
     cases e490
     replace p490 := eq_true p490
     replace q490 := eq_true q490
     go_wp2
     go_roundg k1
     case measure => have := HK1.out; omega
     case rel => exact ⟨(wrap64 (x5_1 + 1)), zF, H', ⟨by have := HK1.out; omega⟩, by repeat (first | exact Drawn0.refl _ | apply Drawn0.step)⟩
   ·rw [if_neg c3] at H
    have c3b0 : decide (x5_1 < (l0.length : Int)) = false := decide_eq_false c3
    clear c3
    obtain rfl := Option.some.inj H
    go_wp2
    go_ret
    exact ⟨by first | rfl | (simp; done) | (simp [*]; done), by repeat (first | exact Drawn0.refl _ | apply Drawn0.step)⟩

/-! ### spec_l15Within: function 61 -/
def spec_l15Within.l0 : Nat → List Int → List Int → Int → Option (Bool)
 | 0, _, _, _ => none
 | k + 1, x0, x1, x5 => if x5 < (x0.length : Int) then (if 0 ≤ x5 then ((spec_l9Has.f k x1 (rd x0 x5)).bind fun t492 => (if t492 = true then (spec_l15Within.l0 k x0 x1 (wrap64 (x5 + 1))) else (some false))) else (none)) else (some true)
def spec_l15Within.f (k : Nat) (l0 : List Int) (l1 : List Int) : Option (Bool) := spec_l15Within.l0 k l0 l1 0
theorem spec_l15Within.mono_l : ∀ k, (∀ y0 y1 y2, LeO (spec_l15Within.l0 k y0 y1 y2) (spec_l15Within.l0 (k + 1) y0 y1 y2))
 | 0 => fun _ _ _ r h => by simp [spec_l15Within.l0] at h
 | k + 1 => by
  have ih0 := spec_l15Within.mono_l k
  ·intro y0 y1 y2
   unfold spec_l15Within.l0
   repeat' first
   | (with_reducible exact ih0 _ _ _)
   | (with_reducible exact spec_l9Has.mono _ _ _)
   | (with_reducible exact LeO.refl _)
   | (with_reducible exact LeO.none _)
   | (with_reducible refine LeO.ite ?_ ?_)
   | (with_reducible refine LeO.bind ?_ (fun _ => ?_))
   | exact ih0 _ _ _
   | exact spec_l9Has.mono _ _ _
   | exact LeO.none _
   | refine LeO.ite ?_ ?_
   | refine LeO.bind ?_ (fun _ => ?_)
theorem spec_l15Within.mono : ∀ a0 a1 k, LeO (spec_l15Within.f k a0 a1) (spec_l15Within.f (k + 1) a0 a1) := by
 intro a0 a1 k
 have ih0 := spec_l15Within.mono_l k
 unfold spec_l15Within.f
 repeat' first
   | (with_reducible exact ih0 _ _ _)
   | (with_reducible exact spec_l9Has.mono _ _ _)
   | (with_reducible exact LeO.refl _)
   | (with_reducible exact LeO.none _)
   | (with_reducible refine LeO.ite ?_ ?_)
   | (with_reducible refine LeO.bind ?_ (fun _ => ?_))
   | exact ih0 _ _ _
   | exact spec_l9Has.mono _ _ _
   | exact LeO.none _
   | refine LeO.ite ?_ ?_
   | refine LeO.bind ?_ (fun _ => ?_)
set_option maxHeartbeats 8000000 in
set_option maxRecDepth 100000 in
theorem spec_l15Within.calls (k : Nat) (A0 : Option Addr) (c0 : Nat) (l0 : List Int) (A1 : Option Addr) (c1 : Nat) (l1 : List Int) (r : Bool) (w : World) (hr0 : Kd.C (Kd.int .i64) w A0 l0.length l0) (hc0 : l0.length ≤ c0) (hr1 : Kd.C (Kd.int .i64) w A1 l1.length l1) (hc1 : l1.length ≤ c1) (h : spec_l15Within.f k l0 l1 = some r) :
  Calls Try.prog 61 #[.slice A0 l0.length c0, .slice A1 l1.length c1] w fun e w' => e = .returned (.bool r) ∧ Drawn0 w w' := by
 have HR0 := Aside0.mk hr0
 have HC0 := Aside0.mk hc0
 clear hr0 hc0
 have HR1 := Aside0.mk hr1
 have HC1 := Aside0.mk hc1
 clear hr1 hc1
 have H : (spec_l15Within.l0 k l0 l1 0) = some r := h
 clear h
 have H' := Aside0.mk H
 clear H
 go_enter Try.func61, Try.ntmps61
 go_wp2
 go_loopg [5] k (fun kq v5 w' => ∃ (x5_1 : Int), v5 = .int .i64 x5_1 ∧ Aside0 (spec_l15Within.l0 kq l0 l1 x5_1 = some r) ∧ Aside0 (kq ≤ k) ∧ Drawn0 w w')
 case atStart => exact ⟨(0), zF, H', ⟨Nat.le_refl _⟩, by repeat (first | exact Drawn0.refl _ | apply Drawn0.step)⟩
 case round =>
  clear H'
  try clear c1
  try clear p2
  obtain ⟨x5_1, rfl, HA, HK1, ⟨m1, rfl⟩⟩ := hrel
  cases gk with
  | zero => exact absurd HA.out (by simp [spec_l15Within.l0])
  | succ k1 =>
   have H := HA.out
   clear HA
   simp only [spec_l15Within.l0] at H
   by_cases c3 : x5_1 < (l0.length : Int)
   ·rw [if_pos c3] at H
    have c3b0 : decide (x5_1 < (l0.length : Int)) = true := decide_eq_true c3
    clear c3
    obtain ⟨c4, H⟩ := ifS H
    have c4b0 : decide (0 ≤ x5_1) = true := decide_eq_true c4
    clear c4
    obtain ⟨t492, A5, H⟩ := bindS H
    by_cases c6 : t492 = true
    ·subst c6
     have H1 : (spec_l15Within.l0 k1 l0 l1 (wrap64 (x5_1 + 1))) = some r := by rw [if_pos rfl] at H; exact H
     clear H
     have H := H1
     clear H1
     have H' := Aside0.mk H
     clear H
     have p491 : 0 ≤ (x5_1 : Int) := zD
     have q491 : x5_1 < (l0.length : Int) := zD
     obtain ⟨ad491, e491, hx491_0⟩ := Kd.at_int HR0.out x5_1 p491 q491
     cases e491
     replace p491 := eq_true p491
     replace q491 := eq_true q491
     go_wp2_with (first | ((with_reducible refine gate_callee (f := 76) rfl ?_); refine goesL_ (some 17) rfl rfl Try.func76 (by kernel_rfl) rfl #[.slice A1 l1.length c1, .int .i64 (rd l0 x5_1)] rfl zG ?_; (with_reducible refine (spec_l9Has.calls k1 _ _ l1 (rd l0 x5_1) true _ ?side1 ?side2 A5.out).mono ?_); (case side1 => exact cT HR1); (case side2 => exact HC1.out); rintro e w' ⟨rfl, ⟨nd, rfl⟩⟩; refine ⟨_, rfl, ?_⟩))
     go_roundg k1
     case measure => have := HK1.out; omega
     case rel => exact ⟨(wrap64 (x5_1 + 1)), zF, H', ⟨by have := HK1.out; omega⟩, by repeat (first | exact Drawn0.refl _ | apply Drawn0.step)⟩
    ·replace c6 := Bool.eq_false_iff.mpr c6
     subst c6
     have H1 : (some false) = some r := by rw [if_neg (show ¬ (false = true) by decide)] at H; exact H
     clear H
     have H := H1
     clear H1
     obtain rfl := Option.some.inj H
     have p491 : 0 ≤ (x5_1 : Int) := zD
     have q491 : x5_1 < (l0.length : Int) := zD
     obtain ⟨ad491, e491, hx491_0⟩ := Kd.at_int HR0.out x5_1 p491 q491
     cases e491
     replace p491 := eq_true p491
     replace q491 := eq_true q491
     go_wp2_with (first | ((with_reducible refine gate_callee (f := 76) rfl ?_); refine goesL_ (some 17) rfl rfl Try.func76 (by kernel_rfl) rfl #[.slice A1 l1.length c1, .int .i64 (rd l0 x5_1)] rfl zG ?_; (with_reducible refine (spec_l9Has.calls k1 _ _ l1 (rd l0 x5_1) false _ ?side1 ?side2 A5.out).mono ?_); (case side1 => exact cT HR1); (case side2 => exact HC1.out); rintro e w' ⟨rfl, ⟨nd, rfl⟩⟩; refine ⟨_, rfl, ?_⟩))
     go_ret
     exact ⟨by first | rfl | (simp; done) | (simp [*]; done), by repeat (first | exact Drawn0.refl _ | apply Drawn0.step)⟩
   ·rw [if_neg c3] at H
    have c3b0 : decide (x5_1 < (l0.length : Int)) = false := decide_eq_false c3
    clear c3
    obtain rfl := Option.some.inj H
    go_wp2
    go_ret
    exact ⟨by first | rfl | (simp; done) | (simp [*]; done), by repeat (first | exact Drawn0.refl _ | apply Drawn0.step)⟩

/-! ### spec_l14End: function 62 -/
def spec_l14End.f (a0_0 : Int) (l0_1 : List Bool) (l0_2 : List (S46)) (a1 : Int) : Option (Bool) := (spec_l1In.f a1 0 (wrap64 ((l0_1.length : Int) - 1))).bind fun t494 => (if t494 = true then (if 0 ≤ a1 then (if a1 < (l0_1.length : Int) then (some (rdOf false l0_1 a1)) else (none)) else (none)) else (some false))
set_option maxHeartbeats 8000000 in
set_option maxRecDepth 100000 in
theorem spec_l14End.calls (a0_0 : Int) (A0_1 : Option Addr) (c0_1 : Nat) (l0_1 : List Bool) (A0_2 : Option Addr) (c0_2 : Nat) (l0_2 : List (S46)) (a1 : Int) (r : Bool) (w : World) (hr0_1 : Kd.C Kd.bool w A0_1 l0_1.length l0_1) (hc0_1 : l0_1.length ≤ c0_1) (hr0_2 : Kd.C k46 w A0_2 l0_2.length l0_2) (hc0_2 : l0_2.length ≤ c0_2) (h : spec_l14End.f a0_0 l0_1 l0_2 a1 = some r) :
  Calls Try.prog 62 #[.agg #[.int .i64 a0_0, .slice A0_1 l0_1.length c0_1, .slice A0_2 l0_2.length c0_2], .int .i64 a1] w fun e w' => e = .returned (.bool r) ∧ Below w.heap.size w w' := by
 have hu27 := Try.underlying27
 have HR0_1 := Aside0.mk hr0_1
 have HC0_1 := Aside0.mk hc0_1
 clear hr0_1 hc0_1
 have HR0_2 := Aside0.mk hr0_2
 have HC0_2 := Aside0.mk hc0_2
 clear hr0_2 hc0_2
 have HB := Aside0.mk (Below.refl w.heap.size w)
 have H : ((spec_l1In.f a1 0 (wrap64 ((l0_1.length : Int) - 1))).bind fun t494 => (if t494 = true then (if 0 ≤ a1 then (if a1 < (l0_1.length : Int) then (some (rdOf false l0_1 a1)) else (none)) else (none)) else (some false))) = some r := h
 clear h
 obtain ⟨t494, A3, H⟩ := bindS H
 by_cases c4 : t494 = true
 ·subst c4
  have H1 : (if 0 ≤ a1 then (if a1 < (l0_1.length : Int) then (some (rdOf false l0_1 a1)) else (none)) else (none)) = some r := by rw [if_pos rfl] at H; exact H
  clear H
  have H := H1
  clear H1
  obtain ⟨c5, H⟩ := ifS H
  have c5b0 : decide (0 ≤ a1) = true := decide_eq_true c5
  clear c5
  obtain ⟨c6, H⟩ := ifS H
  have c6b0 : decide (a1 < (l0_1.length : Int)) = true := decide_eq_true c6
  clear c6
  obtain rfl := Option.some.inj H
  go_enter Try.func62, Try.ntmps62
  go_wp2_with (first | ((with_reducible refine gate_dst (N := 2) rfl ?_); refine box_event ?hg (N := 2) ?hd (cs := #[.int .i64 a0_0, .slice A0_1 l0_1.length c0_1, .slice A0_2 l0_2.length c0_2]) (t := 27) ?hr ?_; (case hd => rfl); (case hg => rfl); (case hr => first | (go_simp; done) | (go_simp; rfl)); intro gb493 hg w7 hbox hb; have BK493 := Aside0.mk (hbox); have GW493 := gS HB hg; have GE493 := gS HB hg; replace HB := bS HB hb; clear hb hbox hg; obtain ⟨hcz8_0, hcz8_1, hcz8_2, hfz8_0, hfz8_1, hfz8_2⟩ := bq3 BK493) | ((with_reducible refine gate_callee (f := 23) rfl ?_); refine goesL_ (some 10) rfl rfl Try.func23 (by kernel_rfl) rfl #[.int .i64 a1, .int .i64 0, .int .i64 (wrap64 ((l0_1.length : Int) - 1))] rfl zG ?_; (with_reducible refine (spec_l1In.calls a1 0 (wrap64 ((l0_1.length : Int) - 1)) true _ A3.out).mono ?_); rintro e w' ⟨rfl, ⟨nd, rfl⟩⟩; refine ⟨_, rfl, ?_⟩; have p495 : 0 ≤ (a1 : Int) := zD; have q495 : a1 < (l0_1.length : Int) := zD; obtain ⟨ad495, e495, hx495_0⟩ := Kd.at_bool HR0_1.out a1 p495 q495; cases e495; replace hx495_0 := hL HB hx495_0; replace p495 := eq_true p495; replace q495 := eq_true q495))
  go_ret
  exact ⟨zE, zB HB⟩
 ·replace c4 := Bool.eq_false_iff.mpr c4
  subst c4
  have H1 : (some false) = some r := by rw [if_neg (show ¬ (false = true) by decide)] at H; exact H
  clear H
  have H := H1
  clear H1
  obtain rfl := Option.some.inj H
  go_enter Try.func62, Try.ntmps62
  go_wp2_with (first | ((with_reducible refine gate_dst (N := 2) rfl ?_); refine box_event ?hg (N := 2) ?hd (cs := #[.int .i64 a0_0, .slice A0_1 l0_1.length c0_1, .slice A0_2 l0_2.length c0_2]) (t := 27) ?hr ?_; (case hd => rfl); (case hg => rfl); (case hr => first | (go_simp; done) | (go_simp; rfl)); intro gb493 hg w9 hbox hb; have BK493 := Aside0.mk (hbox); have GW493 := gS HB hg; have GE493 := gS HB hg; replace HB := bS HB hb; clear hb hbox hg; obtain ⟨hcz10_0, hcz10_1, hcz10_2, hfz10_0, hfz10_1, hfz10_2⟩ := bq3 BK493) | ((with_reducible refine gate_callee (f := 23) rfl ?_); refine goesL_ (some 10) rfl rfl Try.func23 (by kernel_rfl) rfl #[.int .i64 a1, .int .i64 0, .int .i64 (wrap64 ((l0_1.length : Int) - 1))] rfl zG ?_; (with_reducible refine (spec_l1In.calls a1 0 (wrap64 ((l0_1.length : Int) - 1)) false _ A3.out).mono ?_); rintro e w' ⟨rfl, ⟨nd, rfl⟩⟩; refine ⟨_, rfl, ?_⟩))
  go_ret
  exact ⟨zE, zB HB⟩

/-! ### spec_FollowsAt: function 51 -/
def spec_FollowsAt.j0 : Nat → Int → Int → Bool → Int → List Bool → List (S46) → Int → List Bool → List (S46) → Option (Bool)
 | 0, _, _, _, _, _, _, _, _, _ => none
 | k + 1, x2, x3, x53, x497000, x497001, x497002, x498000, x498001, x498002 => if x53 = true then (some false) else ((spec_l14End.f x498000 x498001 x498002 x3).bind fun t512 => (if t512 = true then ((spec_l14End.f x497000 x497001 x497002 x2).bind fun t513 => (some t513)) else (some true)))
def spec_FollowsAt.f (k : Nat) (a0_0 : Int) (l0_1 : List Bool) (l0_2 : List (S46)) (a1_0 : Int) (l1_1 : List Bool) (l1_2 : List (S46)) (a2 : Int) (a3 : Int) : Option (Bool) := (spec_MovesFrom.f k a0_0 l0_1 l0_2 a2 true).bind fun t498 => ((spec_MovesFrom.f k a1_0 l1_1 l1_2 a3 true).bind fun t501 => ((spec_MovesFrom.f k a0_0 l0_1 l0_2 a2 false).bind fun t504 => ((spec_MovesFrom.f k a1_0 l1_1 l1_2 a3 false).bind fun t507 => ((spec_l15Within.f k t507 t504).bind fun t510 => (if t510 = true then ((spec_l15Within.f k t498 t501).bind fun t511 => (if t511 = true then (if ((decide ((t501.length : Int) > 0)) != (decide ((t498.length : Int) > 0))) = true then (spec_FollowsAt.j0 k a2 a3 true a0_0 l0_1 l0_2 a1_0 l1_1 l1_2) else (if (t507.length : Int) = 0 then (spec_FollowsAt.j0 k a2 a3 (decide ((t504.length : Int) > 0)) a0_0 l0_1 l0_2 a1_0 l1_1 l1_2) else (spec_FollowsAt.j0 k a2 a3 false a0_0 l0_1 l0_2 a1_0 l1_1 l1_2))) else (spec_FollowsAt.j0 k a2 a3 true a0_0 l0_1 l0_2 a1_0 l1_1 l1_2))) else (spec_FollowsAt.j0 k a2 a3 true a0_0 l0_1 l0_2 a1_0 l1_1 l1_2))))))
theorem spec_FollowsAt.mono_l : ∀ k, (∀ y0 y1 y2 y3 y4 y5 y6 y7 y8, LeO (spec_FollowsAt.j0 k y0 y1 y2 y3 y4 y5 y6 y7 y8) (spec_FollowsAt.j0 (k + 1) y0 y1 y2 y3 y4 y5 y6 y7 y8))
 | 0 => fun _ _ _ _ _ _ _ _ _ r h => by simp [spec_FollowsAt.j0] at h
 | k + 1 => by
  have ih0 := spec_FollowsAt.mono_l k
  ·intro y0 y1 y2 y3 y4 y5 y6 y7 y8
   unfold spec_FollowsAt.j0
   repeat' first
   | (with_reducible exact ih0 _ _ _ _ _ _ _ _ _)
   | (with_reducible exact spec_MovesFrom.mono _ _ _ _ _ _)
   | (with_reducible exact spec_l15Within.mono _ _ _)
   | (with_reducible exact LeO.refl _)
   | (with_reducible exact LeO.none _)
   | (with_reducible refine LeO.ite ?_ ?_)
   | (with_reducible refine LeO.bind ?_ (fun _ => ?_))
   | exact ih0 _ _ _ _ _ _ _ _ _
   | exact spec_MovesFrom.mono _ _ _ _ _ _
   | exact spec_l15Within.mono _ _ _
   | exact LeO.none _
   | refine LeO.ite ?_ ?_
   | refine LeO.bind ?_ (fun _ => ?_)
theorem spec_FollowsAt.mono : ∀ a0 a1 a2 a3 a4 a5 a6 a7 k, LeO (spec_FollowsAt.f k a0 a1 a2 a3 a4 a5 a6 a7) (spec_FollowsAt.f (k + 1) a0 a1 a2 a3 a4 a5 a6 a7) := by
 intro a0 a1 a2 a3 a4 a5 a6 a7 k
 have ih0 := spec_FollowsAt.mono_l k
 unfold spec_FollowsAt.f
 repeat' first
   | (with_reducible exact ih0 _ _ _ _ _ _ _ _ _)
   | (with_reducible exact spec_MovesFrom.mono _ _ _ _ _ _)
   | (with_reducible exact spec_l15Within.mono _ _ _)
   | (with_reducible exact LeO.refl _)
   | (with_reducible exact LeO.none _)
   | (with_reducible refine LeO.ite ?_ ?_)
   | (with_reducible refine LeO.bind ?_ (fun _ => ?_))
   | exact ih0 _ _ _ _ _ _ _ _ _
   | exact spec_MovesFrom.mono _ _ _ _ _ _
   | exact spec_l15Within.mono _ _ _
   | exact LeO.none _
   | refine LeO.ite ?_ ?_
   | refine LeO.bind ?_ (fun _ => ?_)
set_option maxHeartbeats 8000000 in
set_option maxRecDepth 100000 in
theorem spec_FollowsAt.calls (k : Nat) (a0_0 : Int) (A0_1 : Option Addr) (c0_1 : Nat) (l0_1 : List Bool) (A0_2 : Option Addr) (c0_2 : Nat) (l0_2 : List (S46)) (a1_0 : Int) (A1_1 : Option Addr) (c1_1 : Nat) (l1_1 : List Bool) (A1_2 : Option Addr) (c1_2 : Nat) (l1_2 : List (S46)) (a2 : Int) (a3 : Int) (r : Bool) (w : World) (hr0_1 : Kd.C Kd.bool w A0_1 l0_1.length l0_1) (hc0_1 : l0_1.length ≤ c0_1) (hr0_2 : Kd.C k46 w A0_2 l0_2.length l0_2) (hc0_2 : l0_2.length ≤ c0_2) (hr1_1 : Kd.C Kd.bool w A1_1 l1_1.length l1_1) (hc1_1 : l1_1.length ≤ c1_1) (hr1_2 : Kd.C k46 w A1_2 l1_2.length l1_2) (hc1_2 : l1_2.length ≤ c1_2) (h : spec_FollowsAt.f k a0_0 l0_1 l0_2 a1_0 l1_1 l1_2 a2 a3 = some r) :
  Calls Try.prog 51 #[.agg #[.int .i64 a0_0, .slice A0_1 l0_1.length c0_1, .slice A0_2 l0_2.length c0_2], .agg #[.int .i64 a1_0, .slice A1_1 l1_1.length c1_1, .slice A1_2 l1_2.length c1_2], .int .i64 a2, .int .i64 a3] w fun e w' => e = .returned (.bool r) ∧ Below w.heap.size w w' := by
 have hu27 := Try.underlying27
 have HR0_1 := Aside0.mk hr0_1
 have HC0_1 := Aside0.mk hc0_1
 clear hr0_1 hc0_1
 have HR0_2 := Aside0.mk hr0_2
 have HC0_2 := Aside0.mk hc0_2
 clear hr0_2 hc0_2
 have HR1_1 := Aside0.mk hr1_1
 have HC1_1 := Aside0.mk hc1_1
 clear hr1_1 hc1_1
 have HR1_2 := Aside0.mk hr1_2
 have HC1_2 := Aside0.mk hc1_2
 clear hr1_2 hc1_2
 have HB := Aside0.mk (Below.refl w.heap.size w)
 have H : ((spec_MovesFrom.f k a0_0 l0_1 l0_2 a2 true).bind fun t498 => ((spec_MovesFrom.f k a1_0 l1_1 l1_2 a3 true).bind fun t501 => ((spec_MovesFrom.f k a0_0 l0_1 l0_2 a2 false).bind fun t504 => ((spec_MovesFrom.f k a1_0 l1_1 l1_2 a3 false).bind fun t507 => ((spec_l15Within.f k t507 t504).bind fun t510 => (if t510 = true then ((spec_l15Within.f k t498 t501).bind fun t511 => (if t511 = true then (if ((decide ((t501.length : Int) > 0)) != (decide ((t498.length : Int) > 0))) = true then (spec_FollowsAt.j0 k a2 a3 true a0_0 l0_1 l0_2 a1_0 l1_1 l1_2) else (if (t507.length : Int) = 0 then (spec_FollowsAt.j0 k a2 a3 (decide ((t504.length : Int) > 0)) a0_0 l0_1 l0_2 a1_0 l1_1 l1_2) else (spec_FollowsAt.j0 k a2 a3 false a0_0 l0_1 l0_2 a1_0 l1_1 l1_2))) else (spec_FollowsAt.j0 k a2 a3 true a0_0 l0_1 l0_2 a1_0 l1_1 l1_2))) else (spec_FollowsAt.j0 k a2 a3 true a0_0 l0_1 l0_2 a1_0 l1_1 l1_2))))))) = some r := h
 clear h
 obtain ⟨t498, A5, H⟩ := bindS H
 obtain ⟨t501, A6, H⟩ := bindS H
 obtain ⟨t504, A7, H⟩ := bindS H
 obtain ⟨t507, A8, H⟩ := bindS H
 have HC9 := Aside0.mk H
 clear H
 go_enter Try.func51, Try.ntmps51
 go_upto_region 5 with (first | ((with_reducible refine gate_dst (N := 4) rfl ?_); (try (refine gate_guard (by rfl) ?_; dsimp only)); refine box_event ?hg (N := 4) ?hd (cs := #[.int .i64 a0_0, .slice A0_1 l0_1.length c0_1, .slice A0_2 l0_2.length c0_2]) (t := 27) ?hr ?_; (case hd => rfl); (case hg => rfl); (case hr => first | (go_simp; done) | (go_simp; rfl)); intro gb496 hg w10 hbox hb; have BK496 := Aside0.mk (hbox); have GW496 := gS HB hg; have GE496 := gS HB hg; replace HB := bS HB hb; clear hb hbox hg) | ((with_reducible refine gate_dst (N := 5) rfl ?_); (try (refine gate_guard (by rfl) ?_; dsimp only)); refine box_event ?hg (N := 5) ?hd (cs := #[.int .i64 a1_0, .slice A1_1 l1_1.length c1_1, .slice A1_2 l1_2.length c1_2]) (t := 27) ?hr ?_; (case hd => rfl); (case hg => rfl); (case hr => first | (go_simp; done) | (go_simp; rfl)); intro gb497 hg w11 hbox hb; have BK497 := Aside0.mk (hbox); have GW497 := gS HB hg; have GE497 := gS HB hg; replace HB := bS HB hb; have NB496_497 := nL BK496 hg; have NB497_496 := nR BK496 hg; replace BK496 := kB BK496 hb; clear hb hbox hg; have hnb12 := NB496_497.out; have hnc12 := NB497_496.out; obtain ⟨hcz13_0, hcz13_1, hcz13_2, hfz13_0, hfz13_1, hfz13_2⟩ := bq3 BK496) | ((with_reducible refine gate_callee (f := 25) rfl ?_); refine goesL_ (some 15) rfl rfl Try.func25 (by kernel_rfl) rfl #[.agg #[.int .i64 a0_0, .slice A0_1 l0_1.length c0_1, .slice A0_2 l0_2.length c0_2], .int .i64 a2, .bool true] rfl zG ?_; (with_reducible refine (spec_MovesFrom.calls k a0_0 _ _ l0_1 _ _ l0_2 a2 true t498 _ ?side1 ?side2 ?side3 ?side4 A5.out).mono ?_); (case side1 => exact cS HR0_1 HB); (case side2 => exact HC0_1.out); (case side3 => exact cS HR0_2 HB); (case side4 => exact HC0_2.out); rintro e w14 ⟨v499, rfl, ho0, hb⟩; refine ⟨_, rfl, ?_⟩; have HO500 := Aside0.mk (Kd.R_lower ho0 (below_size (zB HB))); replace BK496 := kB BK496 hb; replace BK497 := kB BK497 hb; replace HB := bS HB hb; (try clear hb); (try clear ho0); obtain ⟨hcz15_0, hcz15_1, hcz15_2, hfz15_0, hfz15_1, hfz15_2⟩ := bq3 BK497) | ((with_reducible refine gate_callee (f := 25) rfl ?_); refine goesL_ (some 18) rfl rfl Try.func25 (by kernel_rfl) rfl #[.agg #[.int .i64 a1_0, .slice A1_1 l1_1.length c1_1, .slice A1_2 l1_2.length c1_2], .int .i64 a3, .bool true] rfl zG ?_; (with_reducible refine (spec_MovesFrom.calls k a1_0 _ _ l1_1 _ _ l1_2 a3 true t501 _ ?side1 ?side2 ?side3 ?side4 A6.out).mono ?_); (case side1 => exact cS HR1_1 HB); (case side2 => exact HC1_1.out); (case side3 => exact cS HR1_2 HB); (case side4 => exact HC1_2.out); rintro e w16 ⟨v502, rfl, ho0, hb⟩; refine ⟨_, rfl, ?_⟩; have HO503 := Aside0.mk (Kd.R_lower (Kd.R_new' ho0 (Kd.R_lt (zR HO500))) (below_size (zB HB))); replace HO500 := Aside0.mk (Kd.R_elder' (zR HO500) (Kd.R_base ho0) hb); replace BK496 := kB BK496 hb; replace BK497 := kB BK497 hb; replace HB := bS HB hb; (try clear hb); (try clear ho0); obtain ⟨hcz17_0, hcz17_1, hcz17_2, hfz17_0, hfz17_1, hfz17_2⟩ := bq3 BK496) | ((with_reducible refine gate_callee (f := 25) rfl ?_); refine goesL_ (some 21) rfl rfl Try.func25 (by kernel_rfl) rfl #[.agg #[.int .i64 a0_0, .slice A0_1 l0_1.length c0_1, .slice A0_2 l0_2.length c0_2], .int .i64 a2, .bool false] rfl zG ?_; (with_reducible refine (spec_MovesFrom.calls k a0_0 _ _ l0_1 _ _ l0_2 a2 false t504 _ ?side1 ?side2 ?side3 ?side4 A7.out).mono ?_); (case side1 => exact cS HR0_1 HB); (case side2 => exact HC0_1.out); (case side3 => exact cS HR0_2 HB); (case side4 => exact HC0_2.out); rintro e w18 ⟨v505, rfl, ho0, hb⟩; refine ⟨_, rfl, ?_⟩; have HO506 := Aside0.mk (Kd.R_lower (Kd.R_new' (Kd.R_new' ho0 (Kd.R_lt (zR HO500))) (Kd.R_lt (zR HO503))) (below_size (zB HB))); replace HO500 := Aside0.mk (Kd.R_elder' (zR HO500) (Kd.R_base ho0) hb); replace HO503 := Aside0.mk (Kd.R_elder' (zR HO503) (Kd.R_base ho0) hb); replace BK496 := kB BK496 hb; replace BK497 := kB BK497 hb; replace HB := bS HB hb; (try clear hb); (try clear ho0); obtain ⟨hcz19_0, hcz19_1, hcz19_2, hfz19_0, hfz19_1, hfz19_2⟩ := bq3 BK497) | ((with_reducible refine gate_callee (f := 25) rfl ?_); refine goesL_ (some 24) rfl rfl Try.func25 (by kernel_rfl) rfl #[.agg #[.int .i64 a1_0, .slice A1_1 l1_1.length c1_1, .slice A1_2 l1_2.length c1_2], .int .i64 a3, .bool false] rfl zG ?_; (with_reducible refine (spec_MovesFrom.calls k a1_0 _ _ l1_1 _ _ l1_2 a3 false t507 _ ?side1 ?side2 ?side3 ?side4 A8.out).mono ?_); (case side1 => exact cS HR1_1 HB); (case side2 => exact HC1_1.out); (case side3 => exact cS HR1_2 HB); (case side4 => exact HC1_2.out); rintro e w20 ⟨v508, rfl, ho0, hb⟩; refine ⟨_, rfl, ?_⟩; have HO509 := Aside0.mk (Kd.R_lower (Kd.R_new' (Kd.R_new' (Kd.R_new' ho0 (Kd.R_lt (zR HO500))) (Kd.R_lt (zR HO503))) (Kd.R_lt (zR HO506))) (below_size (zB HB))); replace HO500 := Aside0.mk (Kd.R_elder' (zR HO500) (Kd.R_base ho0) hb); replace HO503 := Aside0.mk (Kd.R_elder' (zR HO503) (Kd.R_base ho0) hb); replace HO506 := Aside0.mk (Kd.R_elder' (zR HO506) (Kd.R_base ho0) hb); replace BK496 := kB BK496 hb; replace BK497 := kB BK497 hb; replace HB := bS HB hb; (try clear hb); (try clear ho0)))
 (try simp only [Act.put, List.setIfInBounds_toArray, List.set_cons_zero, List.set_cons_succ])
 go_cut [53] (fun v53 wc => ∃ (kq : Nat) (x53_8 : Bool), v53 = .bool x53_8 ∧ Aside0 (spec_FollowsAt.j0 kq a2 a3 x53_8 a0_0 l0_1 l0_2 a1_0 l1_1 l1_2 = some r) ∧ Aside0 (kq ≤ k) ∧ Aside0 (wc.heap[gb496]? = some (.cells #[.int .i64 a0_0, (.slice A0_1 l0_1.length c0_1), (.slice A0_2 l0_2.length c0_2)] 27 (0, 0))) ∧ Aside0 (wc.heap[gb497]? = some (.cells #[.int .i64 a1_0, (.slice A1_1 l1_1.length c1_1), (.slice A1_2 l1_2.length c1_2)] 27 (0, 0))) ∧ Aside0 (Below w.heap.size w wc))
 case first =>
  have H := HC9.out
  clear HC9
  obtain ⟨t510, A21, H⟩ := bindS H
  by_cases c22 : t510 = true
  ·subst c22
   have H1 : ((spec_l15Within.f k t498 t501).bind fun t511 => (if t511 = true then (if ((decide ((t501.length : Int) > 0)) != (decide ((t498.length : Int) > 0))) = true then (spec_FollowsAt.j0 k a2 a3 true a0_0 l0_1 l0_2 a1_0 l1_1 l1_2) else (if (t507.length : Int) = 0 then (spec_FollowsAt.j0 k a2 a3 (decide ((t504.length : Int) > 0)) a0_0 l0_1 l0_2 a1_0 l1_1 l1_2) else (spec_FollowsAt.j0 k a2 a3 false a0_0 l0_1 l0_2 a1_0 l1_1 l1_2))) else (spec_FollowsAt.j0 k a2 a3 true a0_0 l0_1 l0_2 a1_0 l1_1 l1_2))) = some r := by rw [if_pos rfl] at H; exact H
   clear H
   have H := H1
   clear H1
   obtain ⟨t511, A23, H⟩ := bindS H
   by_cases c24 : t511 = true
   ·subst c24
    have H1 : (if ((decide ((t501.length : Int) > 0)) != (decide ((t498.length : Int) > 0))) = true then (spec_FollowsAt.j0 k a2 a3 true a0_0 l0_1 l0_2 a1_0 l1_1 l1_2) else (if (t507.length : Int) = 0 then (spec_FollowsAt.j0 k a2 a3 (decide ((t504.length : Int) > 0)) a0_0 l0_1 l0_2 a1_0 l1_1 l1_2) else (spec_FollowsAt.j0 k a2 a3 false a0_0 l0_1 l0_2 a1_0 l1_1 l1_2))) = some r := by rw [if_pos rfl] at H; exact H
    clear H
    have H := H1
    clear H1
    by_cases c25 : ((decide ((t501.length : Int) > 0)) != (decide ((t498.length : Int) > 0))) = true
    ·rw [if_pos c25] at H
     have c25b4 : ¬ (0 < t501.length ↔ 0 < t498.length) := fun q_ => by rw [show decide ((t501.length : Int) > 0) = decide ((t498.length : Int) > 0) from decide_eq_decide.2 (by omega)] at c25; simp at c25
     have c25b0 : ((decide ((t501.length : Int) > 0)) != (decide ((t498.length : Int) > 0))) = true := c25
     (try (have c25b1 : decide ((decide ((t501.length : Int) > 0)) = (decide ((t498.length : Int) > 0))) = false := by simpa using c25))
     (try (have c25b2 : ((decide ((t501.length : Int) > 0)) == (decide ((t498.length : Int) > 0))) = false := by simpa using c25))
     (try (have c25b3 : ¬ ((decide ((t501.length : Int) > 0)) = (decide ((t498.length : Int) > 0))) := by simpa using c25))
     clear c25
     (first | rw [c25b0] | (simp only [i64_w, i32_w]; rw [c25b0]) | skip)
     have H' := Aside0.mk H
     clear H
     obtain ⟨Ao26, co26, eo26⟩ := Kd.R_slice HO509.out
     subst eo26
     obtain ⟨Ao27, co27, eo27⟩ := Kd.R_slice HO506.out
     subst eo27
     go_wp2_with (first | ((with_reducible refine gate_callee (f := 61) rfl ?_); refine goesL_ (some 27) rfl rfl Try.func61 (by kernel_rfl) rfl #[.slice Ao26 t507.length co26, .slice Ao27 t504.length co27] rfl zG ?_; (with_reducible refine (spec_l15Within.calls k _ _ t507 _ _ t504 true _ ?side1 ?side2 ?side3 ?side4 A21.out).mono ?_); (case side1 => exact cU (Kd.R_reads' HO509.out).2.2); (case side2 => exact (Kd.R_reads' HO509.out).2.1); (case side3 => exact cU (Kd.R_reads' HO506.out).2.2); (case side4 => exact (Kd.R_reads' HO506.out).2.1); rintro e w' ⟨rfl, ⟨nd, rfl⟩⟩; refine ⟨_, rfl, ?_⟩; obtain ⟨Ao28, co28, eo28⟩ := Kd.R_slice HO500.out; subst eo28; obtain ⟨Ao29, co29, eo29⟩ := Kd.R_slice HO503.out; subst eo29) | (go_at_call 61; (with_reducible refine (spec_l15Within.calls k _ _ t498 _ _ t501 true _ ?side1 ?side2 ?side3 ?side4 A23.out).mono ?_); (case side1 => exact cU (Kd.R_reads' HO500.out).2.2); (case side2 => exact (Kd.R_reads' HO500.out).2.1); (case side3 => exact cU (Kd.R_reads' HO503.out).2.2); (case side4 => exact (Kd.R_reads' HO503.out).2.1); rintro e w' ⟨rfl, ⟨nd, rfl⟩⟩))
     go_meet
     case rel => exact ⟨_, (true), zF, H', ⟨by first | omega | exact Nat.le_refl _⟩, ⟨zK BK496⟩, ⟨zK BK497⟩, ⟨zB HB⟩⟩
    ·rw [if_neg c25] at H
     have c25b4 : (0 < t501.length ↔ 0 < t498.length) := by have h_ := decide_eq_decide.1 (show decide ((t501.length : Int) > 0) = decide ((t498.length : Int) > 0) from by simpa [bne] using c25); omega
     have c25b0 : ((decide ((t501.length : Int) > 0)) != (decide ((t498.length : Int) > 0))) = false := by simpa using c25
     (try (have c25b1 : decide ((decide ((t501.length : Int) > 0)) = (decide ((t498.length : Int) > 0))) = true := by simpa using c25))
     (try (have c25b2 : ((decide ((t501.length : Int) > 0)) == (decide ((t498.length : Int) > 0))) = true := by simpa using c25))
     clear c25
     (first | rw [c25b0] | (simp only [i64_w, i32_w]; rw [c25b0]) | skip)
     by_cases c30 : (t507.length : Int) = 0
     ·rw [if_pos c30] at H
      have c30b0 : ((t507.length : Int) == 0) = true := beq_iff_eq.mpr c30
      have c30b1 : ((t507.length : Int) != 0) = false := bne_eq_false_iff_eq.mpr c30
      clear c30
      have H' := Aside0.mk H
      clear H
      obtain ⟨Ao31, co31, eo31⟩ := Kd.R_slice HO509.out
      subst eo31
      obtain ⟨Ao32, co32, eo32⟩ := Kd.R_slice HO506.out
      subst eo32
      go_wp2_with (first | ((with_reducible refine gate_callee (f := 61) rfl ?_); refine goesL_ (some 27) rfl rfl Try.func61 (by kernel_rfl) rfl #[.slice Ao31 t507.length co31, .slice Ao32 t504.length co32] rfl zG ?_; (with_reducible refine (spec_l15Within.calls k _ _ t507 _ _ t504 true _ ?side1 ?side2 ?side3 ?side4 A21.out).mono ?_); (case side1 => exact cU (Kd.R_reads' HO509.out).2.2); (case side2 => exact (Kd.R_reads' HO509.out).2.1); (case side3 => exact cU (Kd.R_reads' HO506.out).2.2); (case side4 => exact (Kd.R_reads' HO506.out).2.1); rintro e w' ⟨rfl, ⟨nd, rfl⟩⟩; refine ⟨_, rfl, ?_⟩; obtain ⟨Ao33, co33, eo33⟩ := Kd.R_slice HO500.out; subst eo33; obtain ⟨Ao34, co34, eo34⟩ := Kd.R_slice HO503.out; subst eo34) | (go_at_call 61; (with_reducible refine (spec_l15Within.calls k _ _ t498 _ _ t501 true _ ?side1 ?side2 ?side3 ?side4 A23.out).mono ?_); (case side1 => exact cU (Kd.R_reads' HO500.out).2.2); (case side2 => exact (Kd.R_reads' HO500.out).2.1); (case side3 => exact cU (Kd.R_reads' HO503.out).2.2); (case side4 => exact (Kd.R_reads' HO503.out).2.1); rintro e w' ⟨rfl, ⟨nd, rfl⟩⟩))
      go_meet
      case rel => exact ⟨_, (decide ((t504.length : Int) > 0)), zF, H', ⟨by first | omega | exact Nat.le_refl _⟩, ⟨zK BK496⟩, ⟨zK BK497⟩, ⟨zB HB⟩⟩
     ·rw [if_neg c30] at H
      have c30b0 : ((t507.length : Int) == 0) = false := beq_eq_false_iff_ne.mpr c30
      have c30b1 : ((t507.length : Int) != 0) = true := bne_iff_ne.mpr c30
      have c30b2 : ¬ (t507 = []) := fun h_ => c30 (by rw [h_]; rfl)
      have H' := Aside0.mk H
      clear H
      obtain ⟨Ao35, co35, eo35⟩ := Kd.R_slice HO509.out
      subst eo35
      obtain ⟨Ao36, co36, eo36⟩ := Kd.R_slice HO506.out
      subst eo36
      go_wp2_with (first | ((with_reducible refine gate_callee (f := 61) rfl ?_); refine goesL_ (some 27) rfl rfl Try.func61 (by kernel_rfl) rfl #[.slice Ao35 t507.length co35, .slice Ao36 t504.length co36] rfl zG ?_; (with_reducible refine (spec_l15Within.calls k _ _ t507 _ _ t504 true _ ?side1 ?side2 ?side3 ?side4 A21.out).mono ?_); (case side1 => exact cU (Kd.R_reads' HO509.out).2.2); (case side2 => exact (Kd.R_reads' HO509.out).2.1); (case side3 => exact cU (Kd.R_reads' HO506.out).2.2); (case side4 => exact (Kd.R_reads' HO506.out).2.1); rintro e w' ⟨rfl, ⟨nd, rfl⟩⟩; refine ⟨_, rfl, ?_⟩; obtain ⟨Ao37, co37, eo37⟩ := Kd.R_slice HO500.out; subst eo37; obtain ⟨Ao38, co38, eo38⟩ := Kd.R_slice HO503.out; subst eo38) | (go_at_call 61; (with_reducible refine (spec_l15Within.calls k _ _ t498 _ _ t501 true _ ?side1 ?side2 ?side3 ?side4 A23.out).mono ?_); (case side1 => exact cU (Kd.R_reads' HO500.out).2.2); (case side2 => exact (Kd.R_reads' HO500.out).2.1); (case side3 => exact cU (Kd.R_reads' HO503.out).2.2); (case side4 => exact (Kd.R_reads' HO503.out).2.1); rintro e w' ⟨rfl, ⟨nd, rfl⟩⟩))
      go_meet
      case rel => exact ⟨_, (false), zF, H', ⟨by first | omega | exact Nat.le_refl _⟩, ⟨zK BK496⟩, ⟨zK BK497⟩, ⟨zB HB⟩⟩
   ·replace c24 := Bool.eq_false_iff.mpr c24
    subst c24
    have H1 : (spec_FollowsAt.j0 k a2 a3 true a0_0 l0_1 l0_2 a1_0 l1_1 l1_2) = some r := by rw [if_neg (show ¬ (false = true) by decide)] at H; exact H
    clear H
    have H := H1
    clear H1
    have H' := Aside0.mk H
    clear H
    obtain ⟨Ao39, co39, eo39⟩ := Kd.R_slice HO509.out
    subst eo39
    obtain ⟨Ao40, co40, eo40⟩ := Kd.R_slice HO506.out
    subst eo40
    go_wp2_with (first | ((with_reducible refine gate_callee (f := 61) rfl ?_); refine goesL_ (some 27) rfl rfl Try.func61 (by kernel_rfl) rfl #[.slice Ao39 t507.length co39, .slice Ao40 t504.length co40] rfl zG ?_; (with_reducible refine (spec_l15Within.calls k _ _ t507 _ _ t504 true _ ?side1 ?side2 ?side3 ?side4 A21.out).mono ?_); (case side1 => exact cU (Kd.R_reads' HO509.out).2.2); (case side2 => exact (Kd.R_reads' HO509.out).2.1); (case side3 => exact cU (Kd.R_reads' HO506.out).2.2); (case side4 => exact (Kd.R_reads' HO506.out).2.1); rintro e w' ⟨rfl, ⟨nd, rfl⟩⟩; refine ⟨_, rfl, ?_⟩; obtain ⟨Ao41, co41, eo41⟩ := Kd.R_slice HO500.out; subst eo41; obtain ⟨Ao42, co42, eo42⟩ := Kd.R_slice HO503.out; subst eo42) | (go_at_call 61; (with_reducible refine (spec_l15Within.calls k _ _ t498 _ _ t501 false _ ?side1 ?side2 ?side3 ?side4 A23.out).mono ?_); (case side1 => exact cU (Kd.R_reads' HO500.out).2.2); (case side2 => exact (Kd.R_reads' HO500.out).2.1); (case side3 => exact cU (Kd.R_reads' HO503.out).2.2); (case side4 => exact (Kd.R_reads' HO503.out).2.1); rintro e w' ⟨rfl, ⟨nd, rfl⟩⟩))
    go_meet
    case rel => exact ⟨_, (true), zF, H', ⟨by first | omega | exact Nat.le_refl _⟩, ⟨zK BK496⟩, ⟨zK BK497⟩, ⟨zB HB⟩⟩
  ·replace c22 := Bool.eq_false_iff.mpr c22
   subst c22
   have H1 : (spec_FollowsAt.j0 k a2 a3 true a0_0 l0_1 l0_2 a1_0 l1_1 l1_2) = some r := by rw [if_neg (show ¬ (false = true) by decide)] at H; exact H
   clear H
   have H := H1
   clear H1
   have H' := Aside0.mk H
   clear H
   obtain ⟨Ao43, co43, eo43⟩ := Kd.R_slice HO509.out
   subst eo43
   obtain ⟨Ao44, co44, eo44⟩ := Kd.R_slice HO506.out
   subst eo44
   go_wp2_with (first | ((with_reducible refine gate_callee (f := 61) rfl ?_); refine goesL_ (some 27) rfl rfl Try.func61 (by kernel_rfl) rfl #[.slice Ao43 t507.length co43, .slice Ao44 t504.length co44] rfl zG ?_; (with_reducible refine (spec_l15Within.calls k _ _ t507 _ _ t504 false _ ?side1 ?side2 ?side3 ?side4 A21.out).mono ?_); (case side1 => exact cU (Kd.R_reads' HO509.out).2.2); (case side2 => exact (Kd.R_reads' HO509.out).2.1); (case side3 => exact cU (Kd.R_reads' HO506.out).2.2); (case side4 => exact (Kd.R_reads' HO506.out).2.1); rintro e w' ⟨rfl, ⟨nd, rfl⟩⟩; refine ⟨_, rfl, ?_⟩))
   go_meet
   case rel => exact ⟨_, (true), zF, H', ⟨by first | omega | exact Nat.le_refl _⟩, ⟨zK BK496⟩, ⟨zK BK497⟩, ⟨zB HB⟩⟩
 case rest =>
  clear HC9
  try clear c1
  try clear c2
  try clear p2
  try clear c3
  try clear c5
  try clear c6
  try clear c12
  try clear c22
  try clear c24
  try clear c25
  try clear c25b0
  try clear c25b1
  try clear c25b2
  try clear c30
  try clear c30b0
  try clear c30b1
  try clear c30b2
  try clear hcz13_0
  try clear hcz13_1
  try clear hcz13_2
  try clear hcz15_0
  try clear hcz15_1
  try clear hcz15_2
  try clear hcz17_0
  try clear hcz17_1
  try clear hcz17_2
  try clear hcz19_0
  try clear hcz19_1
  try clear hcz19_2
  try clear hfz13_0
  try clear hfz13_1
  try clear hfz13_2
  try clear hfz15_0
  try clear hfz15_1
  try clear hfz15_2
  try clear hfz17_0
  try clear hfz17_1
  try clear hfz17_2
  try clear hfz19_0
  try clear hfz19_1
  try clear hfz19_2
  obtain ⟨kq, x53_8, rfl, HA, HJ8, BK496, BK497, HB⟩ := hcut
  cases kq with
  | zero => exact absurd HA.out (by simp [spec_FollowsAt.j0])
  | succ kj8 =>
   have H := HA.out
   clear HA
   simp only [spec_FollowsAt.j0] at H
   by_cases c45 : x53_8 = true
   ·subst c45
    have H1 : (some false) = some r := by rw [if_pos rfl] at H; exact H
    clear H
    have H := H1
    clear H1
    obtain rfl := Option.some.inj H
    go_wp2
    go_ret
    exact ⟨zE, zB HB⟩
   ·replace c45 := Bool.eq_false_iff.mpr c45
    subst c45
    have H1 : ((spec_l14End.f a1_0 l1_1 l1_2 a3).bind fun t512 => (if t512 = true then ((spec_l14End.f a0_0 l0_1 l0_2 a2).bind fun t513 => (some t513)) else (some true))) = some r := by rw [if_neg (show ¬ (false = true) by decide)] at H; exact H
    clear H
    have H := H1
    clear H1
    obtain ⟨t512, A46, H⟩ := bindS H
    by_cases c47 : t512 = true
    ·subst c47
     have H1 : ((spec_l14End.f a0_0 l0_1 l0_2 a2).bind fun t513 => (some t513)) = some r := by rw [if_pos rfl] at H; exact H
     clear H
     have H := H1
     clear H1
     obtain ⟨t513, A48, H⟩ := bindS H
     obtain rfl := Option.some.inj H
     have hnb49 := NB497_496.out
     have hnc49 := NB496_497.out
     obtain ⟨hcz50_0, hcz50_1, hcz50_2, hfz50_0, hfz50_1, hfz50_2⟩ := bq3 BK497
     go_wp2_with (first | ((with_reducible refine gate_callee (f := 62) rfl ?_); refine goesL_ (some 56) rfl rfl Try.func62 (by kernel_rfl) rfl #[.agg #[.int .i64 a1_0, .slice A1_1 l1_1.length c1_1, .slice A1_2 l1_2.length c1_2], .int .i64 a3] rfl zG ?_; (with_reducible refine (spec_l14End.calls a1_0 _ _ l1_1 _ _ l1_2 a3 true _ ?side1 ?side2 ?side3 ?side4 A46.out).mono ?_); (case side1 => exact cS HR1_1 HB); (case side2 => exact HC1_1.out); (case side3 => exact cS HR1_2 HB); (case side4 => exact HC1_2.out); rintro e w51 ⟨rfl, hb⟩; refine ⟨_, rfl, ?_⟩; replace BK496 := kB BK496 hb; replace BK497 := kB BK497 hb; replace HB := bS HB hb; (try clear hb); obtain ⟨hcz52_0, hcz52_1, hcz52_2, hfz52_0, hfz52_1, hfz52_2⟩ := bq3 BK496) | (go_at_call 62; (with_reducible refine (spec_l14End.calls a0_0 _ _ l0_1 _ _ l0_2 a2 t513 _ ?side1 ?side2 ?side3 ?side4 A48.out).mono ?_); (case side1 => exact cS HR0_1 HB); (case side2 => exact HC0_1.out); (case side3 => exact cS HR0_2 HB); (case side4 => exact HC0_2.out); rintro e w53 ⟨rfl, hb⟩; replace BK496 := kB BK496 hb; replace BK497 := kB BK497 hb; replace HB := bS HB hb; (try clear hb)))
     go_ret
     exact ⟨zE, zB HB⟩
    ·replace c47 := Bool.eq_false_iff.mpr c47
     subst c47
     have H1 : (some true) = some r := by rw [if_neg (show ¬ (false = true) by decide)] at H; exact H
     clear H
     have H := H1
     clear H1
     obtain rfl := Option.some.inj H
     have hnb54 := NB497_496.out
     have hnc54 := NB496_497.out
     obtain ⟨hcz55_0, hcz55_1, hcz55_2, hfz55_0, hfz55_1, hfz55_2⟩ := bq3 BK497
     go_wp2_with (first | ((with_reducible refine gate_callee (f := 62) rfl ?_); refine goesL_ (some 56) rfl rfl Try.func62 (by kernel_rfl) rfl #[.agg #[.int .i64 a1_0, .slice A1_1 l1_1.length c1_1, .slice A1_2 l1_2.length c1_2], .int .i64 a3] rfl zG ?_; (with_reducible refine (spec_l14End.calls a1_0 _ _ l1_1 _ _ l1_2 a3 false _ ?side1 ?side2 ?side3 ?side4 A46.out).mono ?_); (case side1 => exact cS HR1_1 HB); (case side2 => exact HC1_1.out); (case side3 => exact cS HR1_2 HB); (case side4 => exact HC1_2.out); rintro e w56 ⟨rfl, hb⟩; refine ⟨_, rfl, ?_⟩; replace BK496 := kB BK496 hb; replace BK497 := kB BK497 hb; replace HB := bS HB hb; (try clear hb)))
     go_ret
     exact ⟨zE, zB HB⟩

end Go.Proofs.Ytfibjclnaeocbaa.PFnChain
