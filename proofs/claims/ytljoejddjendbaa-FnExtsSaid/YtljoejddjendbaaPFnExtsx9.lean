-- WRITTEN by pp.py, this session's own wrapper around the print; not trusted: Lean checks it
import Derived.Test.YtljoejddjendbaaPFnExtsx0
import Derived.Test.YtljoejddjendbaaPFnExtsx1
import Derived.Test.YtljoejddjendbaaPFnExtsx2
import Derived.Test.YtljoejddjendbaaPFnExtsx3
import Derived.Test.YtljoejddjendbaaPFnExtsx4
import Derived.Test.YtljoejddjendbaaPFnExtsx5
import Derived.Test.YtljoejddjendbaaPFnExtsx7
import Derived.Test.YtljoejddjendbaaPFnExtsx8
namespace Go.Proofs.Ytljoejddjendbaa.PFnExts
open Go.RowKit Go.Proofs.Ytljoejddjendbaa.Hw Go.Proofs.YtljoejddjendbaaW.PrintWords Go.Proofs.YtljoejddjendbaaW.PrintLast Go.Proofs.YtljoejddjendbaaW.PrintMore
attribute [local go_sem] max2_int min2_int max_two min_two max_three min_three max_four min_four   -- for this text's walks alone
set_option linter.unusedVariables false
set_option linter.unusedSimpArgs false
set_option linter.unusedSectionVars false

/-! ### laws_contains: function 85 -/
def laws_contains.l0 : Nat → List Int → Int → Int → Option (Bool)
 | 0, _, _, _ => none
 | k + 1, x0, x1, x5 => if x5 < (x0.length : Int) then (if 0 ≤ x5 then (if (rd x0 x5) = x1 then (some true) else (laws_contains.l0 k x0 x1 (wrap64 (x5 + 1)))) else (none)) else (some false)
def laws_contains.f (k : Nat) (l0 : List Int) (a1 : Int) : Option (Bool) := laws_contains.l0 k l0 a1 0
theorem laws_contains.mono_l : ∀ k, (∀ y0 y1 y2, LeO (laws_contains.l0 k y0 y1 y2) (laws_contains.l0 (k + 1) y0 y1 y2))
 | 0 => fun _ _ _ r h => by simp [laws_contains.l0] at h
 | k + 1 => by
  have ih0 := laws_contains.mono_l k
  ·intro y0 y1 y2
   unfold laws_contains.l0
   repeat' first
   | (with_reducible exact ih0 _ _ _)
   | (with_reducible exact LeO.refl _)
   | (with_reducible exact LeO.none _)
   | (with_reducible refine LeO.ite ?_ ?_)
   | (with_reducible refine LeO.bind ?_ (fun _ => ?_))
   | exact ih0 _ _ _
   | exact LeO.none _
   | refine LeO.ite ?_ ?_
   | refine LeO.bind ?_ (fun _ => ?_)
theorem laws_contains.mono : ∀ a0 a1 k, LeO (laws_contains.f k a0 a1) (laws_contains.f (k + 1) a0 a1) := by
 intro a0 a1 k
 have ih0 := laws_contains.mono_l k
 unfold laws_contains.f
 repeat' first
   | (with_reducible exact ih0 _ _ _)
   | (with_reducible exact LeO.refl _)
   | (with_reducible exact LeO.none _)
   | (with_reducible refine LeO.ite ?_ ?_)
   | (with_reducible refine LeO.bind ?_ (fun _ => ?_))
   | exact ih0 _ _ _
   | exact LeO.none _
   | refine LeO.ite ?_ ?_
   | refine LeO.bind ?_ (fun _ => ?_)
set_option maxHeartbeats 8000000 in
set_option maxRecDepth 100000 in
theorem laws_contains.calls (k : Nat) (A0 : Option Addr) (c0 : Nat) (l0 : List Int) (a1 : Int) (r : Bool) (w : World) (hr0 : Kd.C (Kd.int .i64) w A0 l0.length l0) (hc0 : l0.length ≤ c0) (h : laws_contains.f k l0 a1 = some r) :
  Calls Try.prog 85 #[.slice A0 l0.length c0, .int .i64 a1] w fun e w' => e = .returned (.bool r) ∧ Drawn0 w w' := by
 have HR0 := Aside0.mk hr0
 have HC0 := Aside0.mk hc0
 clear hr0 hc0
 have H : (laws_contains.l0 k l0 a1 0) = some r := h
 clear h
 have H' := Aside0.mk H
 clear H
 go_enter Try.func85, Try.ntmps85
 go_wp2
 go_loopg [5] k (fun kq v5 w' => ∃ (x5_1 : Int), v5 = .int .i64 x5_1 ∧ Aside0 (laws_contains.l0 kq l0 a1 x5_1 = some r) ∧ Aside0 (kq ≤ k) ∧ Drawn0 w w')
 case atStart => exact ⟨(0), zF, H', ⟨Nat.le_refl _⟩, by repeat (first | exact Drawn0.refl _ | apply Drawn0.step)⟩
 case round =>
  clear H'
  try clear p2
  obtain ⟨x5_1, rfl, HA, HK1, ⟨m1, rfl⟩⟩ := hrel
  cases gk with
  | zero => exact absurd HA.out (by simp [laws_contains.l0])
  | succ k1 =>
   have H := HA.out
   clear HA
   simp only [laws_contains.l0] at H
   by_cases c3 : x5_1 < (l0.length : Int)
   ·rw [if_pos c3] at H
    have c3b0 : decide (x5_1 < (l0.length : Int)) = true := decide_eq_true c3
    clear c3
    by_cases c4 : 0 ≤ x5_1
    ·rw [if_pos c4] at H
     have c4b0 : decide (0 ≤ x5_1) = true := decide_eq_true c4
     clear c4
     by_cases c5 : (rd l0 x5_1) = a1
     ·rw [if_pos c5] at H
      have c5b0 : ((rd l0 x5_1) == a1) = true := beq_iff_eq.mpr c5
      have c5b1 : ((rd l0 x5_1) != a1) = false := bne_eq_false_iff_eq.mpr c5
      clear c5
      obtain rfl := Option.some.inj H
      have p370 : 0 ≤ (x5_1 : Int) := of_decide_eq_true (by first | (with_reducible assumption) | assumption)
      have q370 : x5_1 < (l0.length : Int) := of_decide_eq_true (by first | (with_reducible assumption) | assumption)
      obtain ⟨ad370, e370, hx370_0⟩ := Kd.at_int HR0.out x5_1 p370 q370
      cases e370
      replace p370 := eq_true p370
      replace q370 := eq_true q370
      go_wp2
      go_ret
      exact ⟨by first | rfl | (simp; done) | (simp [*]; done), by repeat (first | exact Drawn0.refl _ | apply Drawn0.step)⟩
     ·rw [if_neg c5] at H
      have c5b0 : ((rd l0 x5_1) == a1) = false := beq_eq_false_iff_ne.mpr c5
      have c5b1 : ((rd l0 x5_1) != a1) = true := bne_iff_ne.mpr c5
      have H' := Aside0.mk H
      clear H
      have p370 : 0 ≤ (x5_1 : Int) := of_decide_eq_true (by first | (with_reducible assumption) | assumption)
      have q370 : x5_1 < (l0.length : Int) := of_decide_eq_true (by first | (with_reducible assumption) | assumption)
      obtain ⟨ad370, e370, hx370_0⟩ := Kd.at_int HR0.out x5_1 p370 q370
      cases e370
      replace p370 := eq_true p370
      replace q370 := eq_true q370
      go_wp2
      go_roundg k1
      case measure => have := HK1.out; omega
      case rel => exact ⟨(wrap64 (x5_1 + 1)), zF, H', ⟨by have := HK1.out; omega⟩, by repeat (first | exact Drawn0.refl _ | apply Drawn0.step)⟩
    ·rw [if_neg c4] at H
     exact absurd H (by simp)
   ·rw [if_neg c3] at H
    have c3b0 : decide (x5_1 < (l0.length : Int)) = false := decide_eq_false c3
    clear c3
    obtain rfl := Option.some.inj H
    go_wp2
    go_ret
    exact ⟨by first | rfl | (simp; done) | (simp [*]; done), by repeat (first | exact Drawn0.refl _ | apply Drawn0.step)⟩

/-! ### laws_within: function 50 -/
def laws_within.l0 : Nat → List Int → List Int → Int → Option (Bool)
 | 0, _, _, _ => none
 | k + 1, x0, x1, x5 => if x5 < (x0.length : Int) then (if 0 ≤ x5 then ((laws_contains.f k x1 (rd x0 x5)).bind fun t372 => (if t372 = true then (laws_within.l0 k x0 x1 (wrap64 (x5 + 1))) else (some false))) else (none)) else (some true)
def laws_within.f (k : Nat) (l0 : List Int) (l1 : List Int) : Option (Bool) := laws_within.l0 k l0 l1 0
theorem laws_within.mono_l : ∀ k, (∀ y0 y1 y2, LeO (laws_within.l0 k y0 y1 y2) (laws_within.l0 (k + 1) y0 y1 y2))
 | 0 => fun _ _ _ r h => by simp [laws_within.l0] at h
 | k + 1 => by
  have ih0 := laws_within.mono_l k
  ·intro y0 y1 y2
   unfold laws_within.l0
   repeat' first
   | (with_reducible exact ih0 _ _ _)
   | (with_reducible exact laws_contains.mono _ _ _)
   | (with_reducible exact LeO.refl _)
   | (with_reducible exact LeO.none _)
   | (with_reducible refine LeO.ite ?_ ?_)
   | (with_reducible refine LeO.bind ?_ (fun _ => ?_))
   | exact ih0 _ _ _
   | exact laws_contains.mono _ _ _
   | exact LeO.none _
   | refine LeO.ite ?_ ?_
   | refine LeO.bind ?_ (fun _ => ?_)
theorem laws_within.mono : ∀ a0 a1 k, LeO (laws_within.f k a0 a1) (laws_within.f (k + 1) a0 a1) := by
 intro a0 a1 k
 have ih0 := laws_within.mono_l k
 unfold laws_within.f
 repeat' first
   | (with_reducible exact ih0 _ _ _)
   | (with_reducible exact laws_contains.mono _ _ _)
   | (with_reducible exact LeO.refl _)
   | (with_reducible exact LeO.none _)
   | (with_reducible refine LeO.ite ?_ ?_)
   | (with_reducible refine LeO.bind ?_ (fun _ => ?_))
   | exact ih0 _ _ _
   | exact laws_contains.mono _ _ _
   | exact LeO.none _
   | refine LeO.ite ?_ ?_
   | refine LeO.bind ?_ (fun _ => ?_)
set_option maxHeartbeats 8000000 in
set_option maxRecDepth 100000 in
theorem laws_within.calls (k : Nat) (A0 : Option Addr) (c0 : Nat) (l0 : List Int) (A1 : Option Addr) (c1 : Nat) (l1 : List Int) (r : Bool) (w : World) (hr0 : Kd.C (Kd.int .i64) w A0 l0.length l0) (hc0 : l0.length ≤ c0) (hr1 : Kd.C (Kd.int .i64) w A1 l1.length l1) (hc1 : l1.length ≤ c1) (h : laws_within.f k l0 l1 = some r) :
  Calls Try.prog 50 #[.slice A0 l0.length c0, .slice A1 l1.length c1] w fun e w' => e = .returned (.bool r) ∧ Drawn0 w w' := by
 have HR0 := Aside0.mk hr0
 have HC0 := Aside0.mk hc0
 clear hr0 hc0
 have HR1 := Aside0.mk hr1
 have HC1 := Aside0.mk hc1
 clear hr1 hc1
 have H : (laws_within.l0 k l0 l1 0) = some r := h
 clear h
 have H' := Aside0.mk H
 clear H
 go_enter Try.func50, Try.ntmps50
 go_wp2
 go_loopg [5] k (fun kq v5 w' => ∃ (x5_1 : Int), v5 = .int .i64 x5_1 ∧ Aside0 (laws_within.l0 kq l0 l1 x5_1 = some r) ∧ Aside0 (kq ≤ k) ∧ Drawn0 w w')
 case atStart => exact ⟨(0), zF, H', ⟨Nat.le_refl _⟩, by repeat (first | exact Drawn0.refl _ | apply Drawn0.step)⟩
 case round =>
  clear H'
  try clear c1
  try clear p2
  obtain ⟨x5_1, rfl, HA, HK1, ⟨m1, rfl⟩⟩ := hrel
  cases gk with
  | zero => exact absurd HA.out (by simp [laws_within.l0])
  | succ k1 =>
   have H := HA.out
   clear HA
   simp only [laws_within.l0] at H
   by_cases c3 : x5_1 < (l0.length : Int)
   ·rw [if_pos c3] at H
    have c3b0 : decide (x5_1 < (l0.length : Int)) = true := decide_eq_true c3
    clear c3
    by_cases c4 : 0 ≤ x5_1
    ·rw [if_pos c4] at H
     have c4b0 : decide (0 ≤ x5_1) = true := decide_eq_true c4
     clear c4
     replace H := Option.bind_eq_some_iff.mp H
     obtain ⟨t372, A50, H⟩ := H
     replace H : (if t372 = true then (laws_within.l0 k1 l0 l1 (wrap64 (x5_1 + 1))) else (some false)) = some r := H
     have A5 := Aside0.mk A50
     clear A50
     by_cases c6 : t372 = true
     ·subst c6
      have H1 : (laws_within.l0 k1 l0 l1 (wrap64 (x5_1 + 1))) = some r := by rw [if_pos rfl] at H; exact H
      clear H
      have H := H1
      clear H1
      have H' := Aside0.mk H
      clear H
      have p371 : 0 ≤ (x5_1 : Int) := of_decide_eq_true (by first | (with_reducible assumption) | assumption)
      have q371 : x5_1 < (l0.length : Int) := of_decide_eq_true (by first | (with_reducible assumption) | assumption)
      obtain ⟨ad371, e371, hx371_0⟩ := Kd.at_int HR0.out x5_1 p371 q371
      cases e371
      replace p371 := eq_true p371
      replace q371 := eq_true q371
      go_wp2_with (first | ((with_reducible refine gate_callee (f := 85) rfl ?_); refine goesL_ (some 17) rfl rfl Try.func85 (by kernel_rfl) rfl #[.slice A1 l1.length c1, .int .i64 (rd l0 x5_1)] rfl zG ?_; (with_reducible refine (laws_contains.calls k1 _ _ l1 (rd l0 x5_1) true _ ?side1 ?side2 A5.out).mono ?_); (case side1 => repeat (first | exact HR1.out | (with_reducible refine Kd.C_alloc ?_ _) | (with_reducible refine Kd.C_drewN ?_ _) | (with_reducible refine Kd.C_drew ?_))); (case side2 => exact HC1.out); rintro e w' ⟨rfl, ⟨nd, rfl⟩⟩; refine ⟨_, rfl, ?_⟩))
      go_roundg k1
      case measure => have := HK1.out; omega
      case rel => exact ⟨(wrap64 (x5_1 + 1)), zF, H', ⟨by have := HK1.out; omega⟩, by repeat (first | exact Drawn0.refl _ | apply Drawn0.step)⟩
     ·replace c6 := Bool.eq_false_iff.mpr c6
      subst c6
      have H1 : (some false) = some r := by rw [if_neg (show ¬ (false = true) by decide)] at H; exact H
      clear H
      have H := H1
      clear H1
      obtain rfl := Option.some.inj H
      have p371 : 0 ≤ (x5_1 : Int) := of_decide_eq_true (by first | (with_reducible assumption) | assumption)
      have q371 : x5_1 < (l0.length : Int) := of_decide_eq_true (by first | (with_reducible assumption) | assumption)
      obtain ⟨ad371, e371, hx371_0⟩ := Kd.at_int HR0.out x5_1 p371 q371
      cases e371
      replace p371 := eq_true p371
      replace q371 := eq_true q371
      go_wp2_with (first | ((with_reducible refine gate_callee (f := 85) rfl ?_); refine goesL_ (some 17) rfl rfl Try.func85 (by kernel_rfl) rfl #[.slice A1 l1.length c1, .int .i64 (rd l0 x5_1)] rfl zG ?_; (with_reducible refine (laws_contains.calls k1 _ _ l1 (rd l0 x5_1) false _ ?side1 ?side2 A5.out).mono ?_); (case side1 => repeat (first | exact HR1.out | (with_reducible refine Kd.C_alloc ?_ _) | (with_reducible refine Kd.C_drewN ?_ _) | (with_reducible refine Kd.C_drew ?_))); (case side2 => exact HC1.out); rintro e w' ⟨rfl, ⟨nd, rfl⟩⟩; refine ⟨_, rfl, ?_⟩))
      go_ret
      exact ⟨by first | rfl | (simp; done) | (simp [*]; done), by repeat (first | exact Drawn0.refl _ | apply Drawn0.step)⟩
    ·rw [if_neg c4] at H
     exact absurd H (by simp)
   ·rw [if_neg c3] at H
    have c3b0 : decide (x5_1 < (l0.length : Int)) = false := decide_eq_false c3
    clear c3
    obtain rfl := Option.some.inj H
    go_wp2
    go_ret
    exact ⟨by first | rfl | (simp; done) | (simp [*]; done), by repeat (first | exact Drawn0.refl _ | apply Drawn0.step)⟩

/-! ### laws_left: function 51 -/
def laws_left.l0 : Nat → List Int → List Int → List Int → Int → Option (List Int)
 | 0, _, _, _, _ => none
 | k + 1, x0, x1, x5, x6 => if x6 < (x0.length : Int) then (if 0 ≤ x6 then ((laws_contains.f k x1 (rd x0 x6)).bind fun t377 => (if t377 = true then (laws_left.l0 k x0 x1 x5 (wrap64 (x6 + 1))) else (if x5.length < 17592186044416 then (laws_left.l0 k x0 x1 (x5 ++ [rd x0 x6]) (wrap64 (x6 + 1))) else (none)))) else (none)) else (some x5)
def laws_left.f (k : Nat) (l0 : List Int) (l1 : List Int) : Option (List Int) := laws_left.l0 k l0 l1 (([] : List Int)) 0
theorem laws_left.mono_l : ∀ k, (∀ y0 y1 y2 y3, LeO (laws_left.l0 k y0 y1 y2 y3) (laws_left.l0 (k + 1) y0 y1 y2 y3))
 | 0 => fun _ _ _ _ r h => by simp [laws_left.l0] at h
 | k + 1 => by
  have ih0 := laws_left.mono_l k
  ·intro y0 y1 y2 y3
   unfold laws_left.l0
   repeat' first
   | (with_reducible exact ih0 _ _ _ _)
   | (with_reducible exact laws_contains.mono _ _ _)
   | (with_reducible exact LeO.refl _)
   | (with_reducible exact LeO.none _)
   | (with_reducible refine LeO.ite ?_ ?_)
   | (with_reducible refine LeO.bind ?_ (fun _ => ?_))
   | exact ih0 _ _ _ _
   | exact laws_contains.mono _ _ _
   | exact LeO.none _
   | refine LeO.ite ?_ ?_
   | refine LeO.bind ?_ (fun _ => ?_)
theorem laws_left.mono : ∀ a0 a1 k, LeO (laws_left.f k a0 a1) (laws_left.f (k + 1) a0 a1) := by
 intro a0 a1 k
 have ih0 := laws_left.mono_l k
 unfold laws_left.f
 repeat' first
   | (with_reducible exact ih0 _ _ _ _)
   | (with_reducible exact laws_contains.mono _ _ _)
   | (with_reducible exact LeO.refl _)
   | (with_reducible exact LeO.none _)
   | (with_reducible refine LeO.ite ?_ ?_)
   | (with_reducible refine LeO.bind ?_ (fun _ => ?_))
   | exact ih0 _ _ _ _
   | exact laws_contains.mono _ _ _
   | exact LeO.none _
   | refine LeO.ite ?_ ?_
   | refine LeO.bind ?_ (fun _ => ?_)
set_option maxHeartbeats 8000000 in
set_option maxRecDepth 100000 in
theorem laws_left.calls (k : Nat) (A0 : Option Addr) (c0 : Nat) (l0 : List Int) (A1 : Option Addr) (c1 : Nat) (l1 : List Int) (r : List Int) (w : World) (hr0 : Kd.C (Kd.int .i64) w A0 l0.length l0) (hc0 : l0.length ≤ c0) (hr1 : Kd.C (Kd.int .i64) w A1 l1.length l1) (hc1 : l1.length ≤ c1) (h : laws_left.f k l0 l1 = some r) :
  Calls Try.prog 51 #[.slice A0 l0.length c0, .slice A1 l1.length c1] w fun e w' => ∃ v0_ : Value, e = .returned (v0_) ∧ Kd.R (Kd.int .i64) 3 w' w.heap.size (fun _ => True) v0_ r ∧ Below w.heap.size w w' := by
 have HR0 := Aside0.mk hr0
 have HC0 := Aside0.mk hc0
 clear hr0 hc0
 have HR1 := Aside0.mk hr1
 have HC1 := Aside0.mk hc1
 clear hr1 hc1
 have HB := Aside0.mk (Below.refl w.heap.size w)
 have H : (laws_left.l0 k l0 l1 (([] : List Int)) 0) = some r := h
 clear h
 obtain ⟨y373, hy373⟩ : ∃ y_ : List Int, y_ = (([] : List Int)) := ⟨_, rfl⟩
 replace H : (laws_left.l0 k l0 l1 y373 0) = some r := by first | (rw [hy373]; with_reducible exact H) | (have H2_ := (Option.bind_some _ _).symm.trans H; rw [hy373]; with_reducible exact H2_) | (have H2_ := (Option.bind_some _ _).symm.trans H; with_reducible exact H2_) | with_reducible exact H | (rw [hy373]; exact H) | exact H
 have Ny373 := Aside0.mk hy373
 clear hy373
 have H' := Aside0.mk H
 clear H
 go_enter Try.func51, Try.ntmps51
 go_wp2_with (first | ((with_reducible refine gate_dst (N := 7) rfl ?_); refine Kd.R_lit (Kd.int .i64) _ 3 ?hg (N := 7) ?hd (xs := ([] : List Int)) (inner := []) (ok := fun _ => True) (okp := fun _ => True) ?hr ?hp (fun _ hk => hk) trivial (Below.refl _ _) (Nat.le_refl _) (by simp) ?_; (case hd => rfl); (case hg => rfl); (case hr => first | (go_simp; done) | (go_simp; rfl)); (case hp => exact (Reps.none _ _)); intro v374 w3 ho4 hb hg_ hnew_; clear hg_ hnew_; (first | rw [← Ny373.out] at ho4 | (simp only [Int.reduceToNat] at ho4; rw [← Ny373.out] at ho4)); have n0_ := Aside0.mk (Kd.R_lower ho4 (below_size (zB HB))); have n1_ := bS HB hb; clear HB; have HO375 := n0_; have HB := n1_; clear n0_ n1_; clear hb ho4))
 go_loopg [5, 6] k (fun kq v5 v6 w' => ∃ (x5_1 : List Int) (x6_1 : Int), v6 = .int .i64 x6_1 ∧ Aside0 (laws_left.l0 kq l0 l1 x5_1 x6_1 = some r) ∧ Aside0 (kq ≤ k) ∧ Aside0 (Kd.R (Kd.int .i64) 3 w' w.heap.size (fun _ => True) v5 x5_1) ∧ Aside0 (Below w.heap.size w w'))
 case atStart => exact ⟨(y373), (0), zF, H', ⟨Nat.le_refl _⟩, ⟨zR HO375⟩, ⟨zB HB⟩⟩
 case round =>
  clear H'
  try clear c1
  try clear p2
  obtain ⟨x5_1, x6_1, rfl, HA, HK1, HO_5, HB⟩ := hrel
  cases gk with
  | zero => exact absurd HA.out (by simp [laws_left.l0])
  | succ k1 =>
   have H := HA.out
   clear HA
   simp only [laws_left.l0] at H
   by_cases c5 : x6_1 < (l0.length : Int)
   ·rw [if_pos c5] at H
    have c5b0 : decide (x6_1 < (l0.length : Int)) = true := decide_eq_true c5
    clear c5
    by_cases c6 : 0 ≤ x6_1
    ·rw [if_pos c6] at H
     have c6b0 : decide (0 ≤ x6_1) = true := decide_eq_true c6
     clear c6
     replace H := Option.bind_eq_some_iff.mp H
     obtain ⟨t377, A70, H⟩ := H
     replace H : (if t377 = true then (laws_left.l0 k1 l0 l1 x5_1 (wrap64 (x6_1 + 1))) else (if x5_1.length < 17592186044416 then (laws_left.l0 k1 l0 l1 (x5_1 ++ [rd l0 x6_1]) (wrap64 (x6_1 + 1))) else (none))) = some r := H
     have A7 := Aside0.mk A70
     clear A70
     by_cases c8 : t377 = true
     ·subst c8
      have H1 : (laws_left.l0 k1 l0 l1 x5_1 (wrap64 (x6_1 + 1))) = some r := by rw [if_pos rfl] at H; exact H
      clear H
      have H := H1
      clear H1
      have H' := Aside0.mk H
      clear H
      have p376 : 0 ≤ (x6_1 : Int) := of_decide_eq_true (by first | (with_reducible assumption) | assumption)
      have q376 : x6_1 < (l0.length : Int) := of_decide_eq_true (by first | (with_reducible assumption) | assumption)
      obtain ⟨ad376, e376, hx376_0⟩ := Kd.at_int HR0.out x6_1 p376 q376
      cases e376
      replace hx376_0 := (HB.out.cell (World.block_lt_of_cell? w _ hx376_0)).trans hx376_0
      replace p376 := eq_true p376
      replace q376 := eq_true q376
      go_wp2_with (first | ((with_reducible refine gate_callee (f := 85) rfl ?_); refine goesL_ (some 19) rfl rfl Try.func85 (by kernel_rfl) rfl #[.slice A1 l1.length c1, .int .i64 (rd l0 x6_1)] rfl zG ?_; (with_reducible refine (laws_contains.calls k1 _ _ l1 (rd l0 x6_1) true _ ?side1 ?side2 A7.out).mono ?_); (case side1 => exact cS HR1 HB); (case side2 => exact HC1.out); rintro e w' ⟨rfl, ⟨nd, rfl⟩⟩; refine ⟨_, rfl, ?_⟩))
      go_roundg k1
      case measure => have := HK1.out; omega
      case rel => exact ⟨(x5_1), (wrap64 (x6_1 + 1)), zF, H', ⟨by have := HK1.out; omega⟩, ⟨zR HO_5⟩, ⟨zB HB⟩⟩
     ·replace c8 := Bool.eq_false_iff.mpr c8
      subst c8
      have H1 : (if x5_1.length < 17592186044416 then (laws_left.l0 k1 l0 l1 (x5_1 ++ [rd l0 x6_1]) (wrap64 (x6_1 + 1))) else (none)) = some r := by rw [if_neg (show ¬ (false = true) by decide)] at H; exact H
      clear H
      have H := H1
      clear H1
      by_cases c9 : x5_1.length < 17592186044416
      ·rw [if_pos c9] at H
       have LMc9 := Aside0.mk c9
       clear c9
       obtain ⟨y379, hy379⟩ : ∃ y_ : List Int, y_ = (x5_1 ++ [rd l0 x6_1]) := ⟨_, rfl⟩
       replace H : (laws_left.l0 k1 l0 l1 y379 (wrap64 (x6_1 + 1))) = some r := by first | (rw [hy379]; with_reducible exact H) | (have H2_ := (Option.bind_some _ _).symm.trans H; rw [hy379]; with_reducible exact H2_) | (have H2_ := (Option.bind_some _ _).symm.trans H; with_reducible exact H2_) | with_reducible exact H | (rw [hy379]; exact H) | exact H
       have Ny379 := Aside0.mk hy379
       clear hy379
       have H' := Aside0.mk H
       clear H
       have p376 : 0 ≤ (x6_1 : Int) := of_decide_eq_true (by first | (with_reducible assumption) | assumption)
       have q376 : x6_1 < (l0.length : Int) := of_decide_eq_true (by first | (with_reducible assumption) | assumption)
       obtain ⟨ad376, e376, hx376_0⟩ := Kd.at_int HR0.out x6_1 p376 q376
       cases e376
       replace hx376_0 := (HB.out.cell (World.block_lt_of_cell? w _ hx376_0)).trans hx376_0
       replace p376 := eq_true p376
       replace q376 := eq_true q376
       go_wp2_with (first | ((with_reducible refine gate_callee (f := 85) rfl ?_); refine goesL_ (some 19) rfl rfl Try.func85 (by kernel_rfl) rfl #[.slice A1 l1.length c1, .int .i64 (rd l0 x6_1)] rfl zG ?_; (with_reducible refine (laws_contains.calls k1 _ _ l1 (rd l0 x6_1) false _ ?side1 ?side2 A7.out).mono ?_); (case side1 => exact cS HR1 HB); (case side2 => exact HC1.out); rintro e w' ⟨rfl, ⟨nd, rfl⟩⟩; refine ⟨_, rfl, ?_⟩; have p378 : 0 ≤ (x6_1 : Int) := of_decide_eq_true (by first | (with_reducible assumption) | assumption); have q378 : x6_1 < (l0.length : Int) := of_decide_eq_true (by first | (with_reducible assumption) | assumption); obtain ⟨ad378, e378, hx378_0⟩ := Kd.at_int HR0.out x6_1 p378 q378; obtain rfl : ad376 = ad378 := (by injection e378); replace hx378_0 := (HB.out.cell (World.block_lt_of_cell? w _ hx378_0)).trans hx378_0; replace p378 := eq_true p378; replace q378 := eq_true q378) | ((with_reducible refine gate_builtin (b := .append) (xs := #[.tmp 21, .tmp 26]) rfl ?_); at_builtin; refine Kd.R_append (Kd.int .i64) (w0 := w) w.heap.size rfl (.tmp 21) (.tmp 26) 22 3 (.int .i64 0) 8 rfl Try.underlying22 info3 rfl (by decide) (by omega) u5 x5_1 (rd l0 x6_1) [.int .i64 (rd l0 x6_1)] (fun _ => True) (fun _ => False) rfl rfl ?aP (fun _ hk => hk.elim) ?aF ?aO ?aB ?aS ?aL ?_; (case aP => exact rfl); (case aB => exact (zB HB)); (case aF => exact (fun _ _ => trivial)); (case aO => exact (zR HO_5)); (case aS => exact (below_size (zB HB))); (case aL => have := LMc9.out; omega); intro v380 w10 ho hb hg hat; rw [← Ny379.out] at ho; have n0_ := Aside0.mk (hb); have n1_ := Aside0.mk (ho); clear HB; clear HO_5; have HB := n0_; have HO381 := n1_; clear n0_ n1_; clear ho hb hg hat))
       go_roundg k1
       case measure => have := HK1.out; omega
       case rel => exact ⟨(y379), (wrap64 (x6_1 + 1)), zF, H', ⟨by have := HK1.out; omega⟩, ⟨zR HO381⟩, ⟨zB HB⟩⟩
      ·rw [if_neg c9] at H
       exact absurd H (by simp)
    ·rw [if_neg c6] at H
     exact absurd H (by simp)
   ·rw [if_neg c5] at H
    have c5b0 : decide (x6_1 < (l0.length : Int)) = false := decide_eq_false c5
    clear c5
    obtain rfl := Option.some.inj H
    go_wp2
    go_ret
    exact ⟨_, by first | rfl | (simp [errW_none, errW_some] <;> rfl) | (simp [*, errW_none, errW_some] <;> rfl), by (with_reducible repeat (first | apply Kd.R_alloc | apply Kd.R_drewN | apply Kd.R_drew)); exact HO_5.out, by repeat (first | (with_reducible first | exact HB.out | apply below_alloc | apply pw_below_drewN | apply below_drew1) | exact HB.out)⟩

/-! ### laws_FnExts: function 13 -/
mutual
def laws_FnExts.j0 : Nat → List Int → Option (Bool)
 | 0, _ => none
 | k + 1, x0 => (spec_DrawDecodeExts.f k x0).bind fun t396 => ((impl_DecodeExts.f k t396).bind fun bt399 => (if bt399.2 = true then ((impl_EncodeExts.f k bt399.1).bind fun bt403 => (if bt403.2 = true then ((impl_EqualInts.f k t396 bt403.1).bind fun t407 => (if t407 = true then (laws_FnExts.j1 k x0) else (some false))) else (some false))) else (laws_FnExts.j1 k x0)))
def laws_FnExts.j1 : Nat → List Int → Option (Bool)
 | 0, _ => none
 | k + 1, x0 => (spec_DrawKnownOf.f k x0).bind fun bt408 => ((impl_KnownOf.f k bt408.1 bt408.2).bind fun t414 => ((impl_TagsOf.f k t414).bind fun t417 => ((laws_within.f k t417 bt408.2).bind fun t420 => (if t420 = true then ((impl_TagsOf.f k t414).bind fun t421 => ((impl_TagsOf.f k bt408.1).bind fun t424 => ((laws_within.f k t421 t424).bind fun t427 => (if t427 = true then ((impl_TagsOf.f k bt408.1).bind fun t428 => ((laws_left.f k t428 bt408.2).bind fun t431 => (some ((wrap64 ((t431.length : Int) + (t414.length : Int))) == (bt408.1.length : Int))))) else (some false))))) else (some false)))))
end
def laws_FnExts.f (k : Nat) (l0 : List Int) : Option (Bool) := (laws_big.f l0).bind fun t382 => (if t382 = true then (some true) else ((spec_DrawEncodeExts.f k l0).bind fun t383 => ((impl_EncodeExts.f k t383).bind fun bt386 => ((impl_AreExts.f k t383).bind fun t390 => (if (bt386.2 != t390) = true then (some false) else (if bt386.2 = true then ((impl_DecodeExts.f k bt386.1).bind fun bt391 => (if bt391.2 = true then ((impl_EqualExts.f k bt391.1 t383).bind fun t395 => (if t395 = true then (laws_FnExts.j0 k l0) else (some false))) else (some false))) else (laws_FnExts.j0 k l0)))))))
theorem laws_FnExts.mono_l : ∀ k, (∀ y0, LeO (laws_FnExts.j0 k y0) (laws_FnExts.j0 (k + 1) y0)) ∧ (∀ y0, LeO (laws_FnExts.j1 k y0) (laws_FnExts.j1 (k + 1) y0))
 | 0 => ⟨fun _ r h => by simp [laws_FnExts.j0] at h, fun _ r h => by simp [laws_FnExts.j1] at h⟩
 | k + 1 => by
  obtain ⟨ih0, ih1⟩ := laws_FnExts.mono_l k
  refine ⟨?_, ?_⟩
  ·intro y0
   unfold laws_FnExts.j0
   repeat' first
   | (with_reducible exact ih0 _)
   | (with_reducible exact ih1 _)
   | (with_reducible exact impl_AreExts.mono _ _)
   | (with_reducible exact impl_DecodeExts.mono _ _)
   | (with_reducible exact impl_EncodeExts.mono _ _)
   | (with_reducible exact impl_EqualExts.mono _ _ _)
   | (with_reducible exact impl_EqualInts.mono _ _ _)
   | (with_reducible exact impl_KnownOf.mono _ _ _)
   | (with_reducible exact impl_TagsOf.mono _ _)
   | (with_reducible exact laws_left.mono _ _ _)
   | (with_reducible exact laws_within.mono _ _ _)
   | (with_reducible exact spec_DrawDecodeExts.mono _ _)
   | (with_reducible exact spec_DrawEncodeExts.mono _ _)
   | (with_reducible exact spec_DrawKnownOf.mono _ _)
   | (with_reducible exact LeO.refl _)
   | (with_reducible exact LeO.none _)
   | (with_reducible refine LeO.ite ?_ ?_)
   | (with_reducible refine LeO.bind ?_ (fun _ => ?_))
   | exact ih0 _
   | exact ih1 _
   | exact impl_AreExts.mono _ _
   | exact impl_DecodeExts.mono _ _
   | exact impl_EncodeExts.mono _ _
   | exact impl_EqualExts.mono _ _ _
   | exact impl_EqualInts.mono _ _ _
   | exact impl_KnownOf.mono _ _ _
   | exact impl_TagsOf.mono _ _
   | exact laws_left.mono _ _ _
   | exact laws_within.mono _ _ _
   | exact spec_DrawDecodeExts.mono _ _
   | exact spec_DrawEncodeExts.mono _ _
   | exact spec_DrawKnownOf.mono _ _
   | exact LeO.none _
   | refine LeO.ite ?_ ?_
   | refine LeO.bind ?_ (fun _ => ?_)
  ·intro y0
   unfold laws_FnExts.j1
   repeat' first
   | (with_reducible exact ih0 _)
   | (with_reducible exact ih1 _)
   | (with_reducible exact impl_AreExts.mono _ _)
   | (with_reducible exact impl_DecodeExts.mono _ _)
   | (with_reducible exact impl_EncodeExts.mono _ _)
   | (with_reducible exact impl_EqualExts.mono _ _ _)
   | (with_reducible exact impl_EqualInts.mono _ _ _)
   | (with_reducible exact impl_KnownOf.mono _ _ _)
   | (with_reducible exact impl_TagsOf.mono _ _)
   | (with_reducible exact laws_left.mono _ _ _)
   | (with_reducible exact laws_within.mono _ _ _)
   | (with_reducible exact spec_DrawDecodeExts.mono _ _)
   | (with_reducible exact spec_DrawEncodeExts.mono _ _)
   | (with_reducible exact spec_DrawKnownOf.mono _ _)
   | (with_reducible exact LeO.refl _)
   | (with_reducible exact LeO.none _)
   | (with_reducible refine LeO.ite ?_ ?_)
   | (with_reducible refine LeO.bind ?_ (fun _ => ?_))
   | exact ih0 _
   | exact ih1 _
   | exact impl_AreExts.mono _ _
   | exact impl_DecodeExts.mono _ _
   | exact impl_EncodeExts.mono _ _
   | exact impl_EqualExts.mono _ _ _
   | exact impl_EqualInts.mono _ _ _
   | exact impl_KnownOf.mono _ _ _
   | exact impl_TagsOf.mono _ _
   | exact laws_left.mono _ _ _
   | exact laws_within.mono _ _ _
   | exact spec_DrawDecodeExts.mono _ _
   | exact spec_DrawEncodeExts.mono _ _
   | exact spec_DrawKnownOf.mono _ _
   | exact LeO.none _
   | refine LeO.ite ?_ ?_
   | refine LeO.bind ?_ (fun _ => ?_)
theorem laws_FnExts.mono : ∀ a0 k, LeO (laws_FnExts.f k a0) (laws_FnExts.f (k + 1) a0) := by
 intro a0 k
 obtain ⟨ih0, ih1⟩ := laws_FnExts.mono_l k
 unfold laws_FnExts.f
 repeat' first
   | (with_reducible exact ih0 _)
   | (with_reducible exact ih1 _)
   | (with_reducible exact impl_AreExts.mono _ _)
   | (with_reducible exact impl_DecodeExts.mono _ _)
   | (with_reducible exact impl_EncodeExts.mono _ _)
   | (with_reducible exact impl_EqualExts.mono _ _ _)
   | (with_reducible exact impl_EqualInts.mono _ _ _)
   | (with_reducible exact impl_KnownOf.mono _ _ _)
   | (with_reducible exact impl_TagsOf.mono _ _)
   | (with_reducible exact laws_left.mono _ _ _)
   | (with_reducible exact laws_within.mono _ _ _)
   | (with_reducible exact spec_DrawDecodeExts.mono _ _)
   | (with_reducible exact spec_DrawEncodeExts.mono _ _)
   | (with_reducible exact spec_DrawKnownOf.mono _ _)
   | (with_reducible exact LeO.refl _)
   | (with_reducible exact LeO.none _)
   | (with_reducible refine LeO.ite ?_ ?_)
   | (with_reducible refine LeO.bind ?_ (fun _ => ?_))
   | exact ih0 _
   | exact ih1 _
   | exact impl_AreExts.mono _ _
   | exact impl_DecodeExts.mono _ _
   | exact impl_EncodeExts.mono _ _
   | exact impl_EqualExts.mono _ _ _
   | exact impl_EqualInts.mono _ _ _
   | exact impl_KnownOf.mono _ _ _
   | exact impl_TagsOf.mono _ _
   | exact laws_left.mono _ _ _
   | exact laws_within.mono _ _ _
   | exact spec_DrawDecodeExts.mono _ _
   | exact spec_DrawEncodeExts.mono _ _
   | exact spec_DrawKnownOf.mono _ _
   | exact LeO.none _
   | refine LeO.ite ?_ ?_
   | refine LeO.bind ?_ (fun _ => ?_)
set_option maxHeartbeats 8000000 in
set_option maxRecDepth 100000 in
theorem laws_FnExts.calls (k : Nat) (A0 : Option Addr) (c0 : Nat) (l0 : List Int) (r : Bool) (w : World) (hr0 : Kd.C (Kd.int .u8) w A0 l0.length l0) (hc0 : l0.length ≤ c0) (ht_ : r = true) (h : laws_FnExts.f k l0 = some r) :
  Calls Try.prog 13 #[.slice A0 l0.length c0] w fun e w' => e = .returned (.bool r) ∧ Below w.heap.size w w' := by
 have HR0 := Aside0.mk hr0
 have HC0 := Aside0.mk hc0
 clear hr0 hc0
 have HB := Aside0.mk (Below.refl w.heap.size w)
 have H : ((laws_big.f l0).bind fun t382 => (if t382 = true then (some true) else ((spec_DrawEncodeExts.f k l0).bind fun t383 => ((impl_EncodeExts.f k t383).bind fun bt386 => ((impl_AreExts.f k t383).bind fun t390 => (if (bt386.2 != t390) = true then (some false) else (if bt386.2 = true then ((impl_DecodeExts.f k bt386.1).bind fun bt391 => (if bt391.2 = true then ((impl_EqualExts.f k bt391.1 t383).bind fun t395 => (if t395 = true then (laws_FnExts.j0 k l0) else (some false))) else (some false))) else (laws_FnExts.j0 k l0)))))))) = some r := h
 clear h
 replace H := Option.bind_eq_some_iff.mp H
 obtain ⟨t382, A20, H⟩ := H
 replace H : (if t382 = true then (some true) else ((spec_DrawEncodeExts.f k l0).bind fun t383 => ((impl_EncodeExts.f k t383).bind fun bt386 => ((impl_AreExts.f k t383).bind fun t390 => (if (bt386.2 != t390) = true then (some false) else (if bt386.2 = true then ((impl_DecodeExts.f k bt386.1).bind fun bt391 => (if bt391.2 = true then ((impl_EqualExts.f k bt391.1 t383).bind fun t395 => (if t395 = true then (laws_FnExts.j0 k l0) else (some false))) else (some false))) else (laws_FnExts.j0 k l0))))))) = some r := H
 have A2 := Aside0.mk A20
 clear A20
 by_cases c3 : t382 = true
 ·subst c3
  have H1 : (some true) = some r := by rw [if_pos rfl] at H; exact H
  clear H
  have H := H1
  clear H1
  obtain rfl := Option.some.inj H
  go_enter Try.func13, Try.ntmps13
  go_wp2_with (first | ((with_reducible refine gate_callee (f := 45) rfl ?_); refine goesL_ (some 17) rfl rfl Try.func45 (by kernel_rfl) rfl #[.slice A0 l0.length c0] rfl zG ?_; (with_reducible refine (laws_big.calls _ _ l0 true _ ?side1 ?side2 A2.out).mono ?_); (case side1 => repeat (first | exact HR0.out | (with_reducible refine Kd.C_alloc ?_ _) | (with_reducible refine Kd.C_drewN ?_ _) | (with_reducible refine Kd.C_drew ?_))); (case side2 => exact HC0.out); rintro e w' ⟨rfl, ⟨nd, rfl⟩⟩; refine ⟨_, rfl, ?_⟩))
  go_ret
  exact ⟨by first | rfl | (simp [errW_none, errW_some] <;> rfl) | (simp [*, errW_none, errW_some] <;> rfl), by repeat (first | (with_reducible first | exact HB.out | apply below_alloc | apply pw_below_drewN | apply below_drew1) | exact HB.out)⟩
 ·replace c3 := Bool.eq_false_iff.mpr c3
  subst c3
  have H1 : ((spec_DrawEncodeExts.f k l0).bind fun t383 => ((impl_EncodeExts.f k t383).bind fun bt386 => ((impl_AreExts.f k t383).bind fun t390 => (if (bt386.2 != t390) = true then (some false) else (if bt386.2 = true then ((impl_DecodeExts.f k bt386.1).bind fun bt391 => (if bt391.2 = true then ((impl_EqualExts.f k bt391.1 t383).bind fun t395 => (if t395 = true then (laws_FnExts.j0 k l0) else (some false))) else (some false))) else (laws_FnExts.j0 k l0)))))) = some r := by rw [if_neg (show ¬ (false = true) by decide)] at H; exact H
  clear H
  have H := H1
  clear H1
  replace H := Option.bind_eq_some_iff.mp H
  obtain ⟨t383, A40, H⟩ := H
  replace H : ((impl_EncodeExts.f k t383).bind fun bt386 => ((impl_AreExts.f k t383).bind fun t390 => (if (bt386.2 != t390) = true then (some false) else (if bt386.2 = true then ((impl_DecodeExts.f k bt386.1).bind fun bt391 => (if bt391.2 = true then ((impl_EqualExts.f k bt391.1 t383).bind fun t395 => (if t395 = true then (laws_FnExts.j0 k l0) else (some false))) else (some false))) else (laws_FnExts.j0 k l0))))) = some r := H
  have A4 := Aside0.mk A40
  clear A40
  replace H := Option.bind_eq_some_iff.mp H
  obtain ⟨⟨t386, t387⟩, A50, H⟩ := H
  replace H : ((impl_AreExts.f k t383).bind fun t390 => (if (t387 != t390) = true then (some false) else (if t387 = true then ((impl_DecodeExts.f k t386).bind fun bt391 => (if bt391.2 = true then ((impl_EqualExts.f k bt391.1 t383).bind fun t395 => (if t395 = true then (laws_FnExts.j0 k l0) else (some false))) else (some false))) else (laws_FnExts.j0 k l0)))) = some r := H
  have A5 := Aside0.mk A50
  clear A50
  replace H := Option.bind_eq_some_iff.mp H
  obtain ⟨t390, A60, H⟩ := H
  replace H : (if (t387 != t390) = true then (some false) else (if t387 = true then ((impl_DecodeExts.f k t386).bind fun bt391 => (if bt391.2 = true then ((impl_EqualExts.f k bt391.1 t383).bind fun t395 => (if t395 = true then (laws_FnExts.j0 k l0) else (some false))) else (some false))) else (laws_FnExts.j0 k l0))) = some r := H
  have A6 := Aside0.mk A60
  clear A60
  by_cases c7 : (t387 != t390) = true
  ·rw [if_pos c7] at H
   have c7b0 : (t387 != t390) = true := c7
   (try (have c7b1 : decide (t387 = t390) = false := by simpa using c7))
   (try (have c7b2 : (t387 == t390) = false := by simpa using c7))
   (try (have c7b3 : ¬ (t387 = t390) := by simpa using c7))
   clear c7
   exact absurd H (by simp [ht_])
  ·rw [if_neg c7] at H
   have c7b0 : (t387 != t390) = false := by simpa using c7
   (try (have c7b1 : decide (t387 = t390) = true := by simpa using c7))
   (try (have c7b2 : (t387 == t390) = true := by simpa using c7))
   clear c7
   have HC8 := Aside0.mk H
   clear H
   go_enter Try.func13, Try.ntmps13
   go_upto_if 29 with (first | ((with_reducible refine gate_callee (f := 45) rfl ?_); refine goesL_ (some 17) rfl rfl Try.func45 (by kernel_rfl) rfl #[.slice A0 l0.length c0] rfl zG ?_; (with_reducible refine (laws_big.calls _ _ l0 false _ ?side1 ?side2 A2.out).mono ?_); (case side1 => repeat (first | exact HR0.out | (with_reducible refine Kd.C_alloc ?_ _) | (with_reducible refine Kd.C_drewN ?_ _) | (with_reducible refine Kd.C_drew ?_))); (case side2 => exact HC0.out); rintro e w' ⟨rfl, ⟨nd, rfl⟩⟩; refine ⟨_, rfl, ?_⟩) | ((with_reducible refine gate_callee (f := 46) rfl ?_); refine goesL_ (some 19) rfl rfl Try.func46 (by kernel_rfl) rfl #[.slice A0 l0.length c0] rfl zG ?_; (with_reducible refine (spec_DrawEncodeExts.calls k _ _ l0 t383 _ ?side1 ?side2 A4.out).mono ?_); (case side1 => repeat (first | exact HR0.out | (with_reducible refine Kd.C_alloc ?_ _) | (with_reducible refine Kd.C_drewN ?_ _) | (with_reducible refine Kd.C_drew ?_))); (case side2 => exact HC0.out); rintro e w9 ⟨v384, rfl, ho0, hb⟩; refine ⟨_, rfl, ?_⟩; have n0_ := Aside0.mk (Kd.S_lower ho0 (below_size (zB HB))); have n1_ := bS HB hb; clear HB; have HO385 := n0_; have HB := n1_; clear n0_ n1_; (try clear hb); (try clear ho0); obtain ⟨Ao10, co10, eo10⟩ := Kd.S_slice HO385.out; subst eo10) | ((with_reducible refine gate_callee (f := 44) rfl ?_); refine goesL_ (some 22) rfl rfl Try.func44 (by kernel_rfl) rfl #[.slice Ao10 t383.length co10] rfl zG ?_; (with_reducible refine (impl_EncodeExts.calls k _ _ t383 t386 t387 _ ?side1 ?side2 A5.out).mono ?_); (case side1 => repeat (first | exact (Kd.S_reads' HO385.out).2.2 | (with_reducible refine Kd.C_alloc ?_ _) | (with_reducible refine Kd.C_drewN ?_ _) | (with_reducible refine Kd.C_drew ?_))); (case side2 => exact (Kd.S_reads' HO385.out).2.1); rintro e w11 ⟨v388, rfl, ho0, hb⟩; refine ⟨_, rfl, ?_⟩; have n0_ := Aside0.mk (Kd.S_elder' (zS HO385) (Kd.R_base ho0) hb); have n1_ := Aside0.mk (Kd.R_lower ho0 (below_size (zB HB))); have n2_ := bS HB hb; clear HO385; clear HB; have HO385 := n0_; have HO389 := n1_; have HB := n2_; clear n0_ n1_ n2_; (try clear hb); (try clear ho0)) | ((with_reducible refine gate_callee (f := 35) rfl ?_); refine goesL_ (some 27) rfl rfl Try.func35 (by kernel_rfl) rfl #[.slice Ao10 t383.length co10] rfl zG ?_; (with_reducible refine (impl_AreExts.calls k _ _ t383 t390 _ ?side1 ?side2 A6.out).mono ?_); (case side1 => repeat (first | exact (Kd.S_reads' HO385.out).2.2 | (with_reducible refine Kd.C_alloc ?_ _) | (with_reducible refine Kd.C_drewN ?_ _) | (with_reducible refine Kd.C_drew ?_))); (case side2 => exact (Kd.S_reads' HO385.out).2.1); rintro e w12 ⟨rfl, hb⟩; refine ⟨_, rfl, ?_⟩; have n0_ := Aside0.mk (Kd.S_below (zS HO385) hb); have n1_ := Aside0.mk (Kd.R_below (zR HO389) hb); have n2_ := bS HB hb; clear HO385; clear HO389; clear HB; have HO385 := n0_; have HO389 := n1_; have HB := n2_; clear n0_ n1_ n2_; (try clear hb)))
   (try simp only [Act.put, List.setIfInBounds_toArray, List.set_cons_zero, List.set_cons_succ])
   go_cut [] (fun wc => ∃ (kq : Nat), Aside0 (laws_FnExts.j0 kq l0 = some r) ∧ Aside0 (kq ≤ k) ∧ Aside0 (Below w.heap.size w wc))
   case first =>
    have H := HC8.out
    clear HC8
    by_cases c13 : t387 = true
    ·subst c13
     have H1 : ((impl_DecodeExts.f k t386).bind fun bt391 => (if bt391.2 = true then ((impl_EqualExts.f k bt391.1 t383).bind fun t395 => (if t395 = true then (laws_FnExts.j0 k l0) else (some false))) else (some false))) = some r := by rw [if_pos rfl] at H; exact H
     clear H
     have H := H1
     clear H1
     replace H := Option.bind_eq_some_iff.mp H
     obtain ⟨⟨t391, t392⟩, A140, H⟩ := H
     replace H : (if t392 = true then ((impl_EqualExts.f k t391 t383).bind fun t395 => (if t395 = true then (laws_FnExts.j0 k l0) else (some false))) else (some false)) = some r := H
     have A14 := Aside0.mk A140
     clear A140
     by_cases c15 : t392 = true
     ·subst c15
      have H1 : ((impl_EqualExts.f k t391 t383).bind fun t395 => (if t395 = true then (laws_FnExts.j0 k l0) else (some false))) = some r := by rw [if_pos rfl] at H; exact H
      clear H
      have H := H1
      clear H1
      replace H := Option.bind_eq_some_iff.mp H
      obtain ⟨t395, A160, H⟩ := H
      replace H : (if t395 = true then (laws_FnExts.j0 k l0) else (some false)) = some r := H
      have A16 := Aside0.mk A160
      clear A160
      by_cases c17 : t395 = true
      ·subst c17
       have H1 : (laws_FnExts.j0 k l0) = some r := by rw [if_pos rfl] at H; exact H
       clear H
       have H := H1
       clear H1
       have H' := Aside0.mk H
       clear H
       obtain ⟨Ao18, co18, eo18⟩ := Kd.R_slice HO389.out
       subst eo18
       go_wp2_with (first | ((with_reducible refine gate_callee (f := 42) rfl ?_); refine goesL_ (some 32) rfl rfl Try.func42 (by kernel_rfl) rfl #[.slice Ao18 t386.length co18] rfl zG ?_; (with_reducible refine (impl_DecodeExts.calls k _ _ t386 t391 true _ ?side1 ?side2 A14.out).mono ?_); (case side1 => repeat (first | exact (Kd.R_reads' HO389.out).2.2 | (with_reducible refine Kd.C_alloc ?_ _) | (with_reducible refine Kd.C_drewN ?_ _) | (with_reducible refine Kd.C_drew ?_))); (case side2 => exact (Kd.R_reads' HO389.out).2.1); rintro e w19 ⟨v393, rfl, ho0, hb⟩; refine ⟨_, rfl, ?_⟩; have n0_ := Aside0.mk (Kd.S_elder' (zS HO385) (Kd.S_base ho0) hb); have n1_ := Aside0.mk (Kd.R_below (zR HO389) hb); have n2_ := Aside0.mk (Kd.S_lower (Kd.S_new' (Kd.S_new' ho0 (Kd.S_lt (zS HO385))) (Kd.R_lt (zR HO389))) (below_size (zB HB))); have n3_ := bS HB hb; clear HO385; clear HO389; clear HB; have HO385 := n0_; have HO389 := n1_; have HO394 := n2_; have HB := n3_; clear n0_ n1_ n2_ n3_; (try clear hb); (try clear ho0); obtain ⟨Ao20, co20, eo20⟩ := Kd.S_slice HO394.out; subst eo20) | (go_at_call 33; (with_reducible refine (impl_EqualExts.calls k _ _ t391 _ _ t383 true _ ?side1 ?side2 ?side3 ?side4 A16.out).mono ?_); (case side1 => repeat (first | exact (Kd.S_reads' HO394.out).2.2 | (with_reducible refine Kd.C_alloc ?_ _) | (with_reducible refine Kd.C_drewN ?_ _) | (with_reducible refine Kd.C_drew ?_))); (case side2 => exact (Kd.S_reads' HO394.out).2.1); (case side3 => repeat (first | exact (Kd.S_reads' HO385.out).2.2 | (with_reducible refine Kd.C_alloc ?_ _) | (with_reducible refine Kd.C_drewN ?_ _) | (with_reducible refine Kd.C_drew ?_))); (case side4 => exact (Kd.S_reads' HO385.out).2.1); rintro e w21 ⟨rfl, hb⟩; have n0_ := Aside0.mk (Kd.S_below (zS HO385) hb); have n1_ := Aside0.mk (Kd.R_below (zR HO389) hb); have n2_ := Aside0.mk (Kd.S_below (zS HO394) hb); have n3_ := bS HB hb; clear HO385; clear HO389; clear HO394; clear HB; have HO385 := n0_; have HO389 := n1_; have HO394 := n2_; have HB := n3_; clear n0_ n1_ n2_ n3_; (try clear hb)))
       go_meet
       case rel => exact ⟨_, H', ⟨by first | omega | exact Nat.le_refl _⟩, ⟨zB HB⟩⟩
      ·replace c17 := Bool.eq_false_iff.mpr c17
       subst c17
       have H1 : (some false) = some r := by rw [if_neg (show ¬ (false = true) by decide)] at H; exact H
       clear H
       have H := H1
       clear H1
       exact absurd H (by simp [ht_])
     ·replace c15 := Bool.eq_false_iff.mpr c15
      subst c15
      have H1 : (some false) = some r := by rw [if_neg (show ¬ (false = true) by decide)] at H; exact H
      clear H
      have H := H1
      clear H1
      exact absurd H (by simp [ht_])
    ·replace c13 := Bool.eq_false_iff.mpr c13
     subst c13
     have H1 : (laws_FnExts.j0 k l0) = some r := by rw [if_neg (show ¬ (false = true) by decide)] at H; exact H
     clear H
     have H := H1
     clear H1
     have H' := Aside0.mk H
     clear H
     go_wp2
     go_meet
     case rel => exact ⟨_, H', ⟨by first | omega | exact Nat.le_refl _⟩, ⟨zB HB⟩⟩
   case rest =>
    clear HC8
    try clear c1
    try clear p2
    try clear c3
    try clear c4
    try clear c7
    try clear c7b0
    try clear c7b1
    try clear c7b2
    try clear c13
    try clear c15
    try clear c17
    obtain ⟨kq, HA, HJ7, HB⟩ := hcut
    cases kq with
    | zero => exact absurd HA.out (by simp [laws_FnExts.j0])
    | succ kj7 =>
     have H := HA.out
     clear HA
     simp only [laws_FnExts.j0] at H
     replace H := Option.bind_eq_some_iff.mp H
     obtain ⟨t396, A220, H⟩ := H
     replace H : ((impl_DecodeExts.f kj7 t396).bind fun bt399 => (if bt399.2 = true then ((impl_EncodeExts.f kj7 bt399.1).bind fun bt403 => (if bt403.2 = true then ((impl_EqualInts.f kj7 t396 bt403.1).bind fun t407 => (if t407 = true then (laws_FnExts.j1 kj7 l0) else (some false))) else (some false))) else (laws_FnExts.j1 kj7 l0))) = some r := H
     have A22 := Aside0.mk A220
     clear A220
     replace H := Option.bind_eq_some_iff.mp H
     obtain ⟨⟨t399, t400⟩, A230, H⟩ := H
     replace H : (if t400 = true then ((impl_EncodeExts.f kj7 t399).bind fun bt403 => (if bt403.2 = true then ((impl_EqualInts.f kj7 t396 bt403.1).bind fun t407 => (if t407 = true then (laws_FnExts.j1 kj7 l0) else (some false))) else (some false))) else (laws_FnExts.j1 kj7 l0)) = some r := H
     have A23 := Aside0.mk A230
     clear A230
     have HC24 := Aside0.mk H
     clear H
     go_upto_if 50 with (first | ((with_reducible refine gate_callee (f := 47) rfl ?_); refine goesL_ (some 44) rfl rfl Try.func47 (by kernel_rfl) rfl #[.slice A0 l0.length c0] rfl zG ?_; (with_reducible refine (spec_DrawDecodeExts.calls kj7 _ _ l0 t396 _ ?side1 ?side2 A22.out).mono ?_); (case side1 => exact cS HR0 HB); (case side2 => exact HC0.out); rintro e w25 ⟨v397, rfl, ho0, hb⟩; refine ⟨_, rfl, ?_⟩; have n0_ := Aside0.mk (Kd.R_lower ho0 (below_size (zB HB))); have n1_ := bS HB hb; clear HB; have HO398 := n0_; have HB := n1_; clear n0_ n1_; (try clear hb); (try clear ho0); obtain ⟨Ao26, co26, eo26⟩ := Kd.R_slice HO398.out; subst eo26) | ((with_reducible refine gate_callee (f := 42) rfl ?_); refine goesL_ (some 47) rfl rfl Try.func42 (by kernel_rfl) rfl #[.slice Ao26 t396.length co26] rfl zG ?_; (with_reducible refine (impl_DecodeExts.calls kj7 _ _ t396 t399 t400 _ ?side1 ?side2 A23.out).mono ?_); (case side1 => repeat (first | exact (Kd.R_reads' HO398.out).2.2 | (with_reducible refine Kd.C_alloc ?_ _) | (with_reducible refine Kd.C_drewN ?_ _) | (with_reducible refine Kd.C_drew ?_))); (case side2 => exact (Kd.R_reads' HO398.out).2.1); rintro e w27 ⟨v401, rfl, ho0, hb⟩; refine ⟨_, rfl, ?_⟩; have n0_ := Aside0.mk (Kd.R_below (zR HO398) hb); have n1_ := Aside0.mk (Kd.S_lower (Kd.S_new' ho0 (Kd.R_lt (zR HO398))) (below_size (zB HB))); have n2_ := bS HB hb; clear HO398; clear HB; have HO398 := n0_; have HO402 := n1_; have HB := n2_; clear n0_ n1_ n2_; (try clear hb); (try clear ho0)))
     (try simp only [Act.put, List.setIfInBounds_toArray, List.set_cons_zero, List.set_cons_succ])
     go_cut [] (fun wc => ∃ (kq : Nat), Aside0 (laws_FnExts.j1 kq l0 = some r) ∧ Aside0 (kq ≤ kj7) ∧ Aside0 (Below w.heap.size w wc))
     case first =>
      have H := HC24.out
      clear HC24
      by_cases c28 : t400 = true
      ·subst c28
       have H1 : ((impl_EncodeExts.f kj7 t399).bind fun bt403 => (if bt403.2 = true then ((impl_EqualInts.f kj7 t396 bt403.1).bind fun t407 => (if t407 = true then (laws_FnExts.j1 kj7 l0) else (some false))) else (some false))) = some r := by rw [if_pos rfl] at H; exact H
       clear H
       have H := H1
       clear H1
       replace H := Option.bind_eq_some_iff.mp H
       obtain ⟨⟨t403, t404⟩, A290, H⟩ := H
       replace H : (if t404 = true then ((impl_EqualInts.f kj7 t396 t403).bind fun t407 => (if t407 = true then (laws_FnExts.j1 kj7 l0) else (some false))) else (some false)) = some r := H
       have A29 := Aside0.mk A290
       clear A290
       by_cases c30 : t404 = true
       ·subst c30
        have H1 : ((impl_EqualInts.f kj7 t396 t403).bind fun t407 => (if t407 = true then (laws_FnExts.j1 kj7 l0) else (some false))) = some r := by rw [if_pos rfl] at H; exact H
        clear H
        have H := H1
        clear H1
        replace H := Option.bind_eq_some_iff.mp H
        obtain ⟨t407, A310, H⟩ := H
        replace H : (if t407 = true then (laws_FnExts.j1 kj7 l0) else (some false)) = some r := H
        have A31 := Aside0.mk A310
        clear A310
        by_cases c32 : t407 = true
        ·subst c32
         have H1 : (laws_FnExts.j1 kj7 l0) = some r := by rw [if_pos rfl] at H; exact H
         clear H
         have H := H1
         clear H1
         have H' := Aside0.mk H
         clear H
         obtain ⟨Ao33, co33, eo33⟩ := Kd.S_slice HO402.out
         subst eo33
         go_wp2_with (first | ((with_reducible refine gate_callee (f := 44) rfl ?_); refine goesL_ (some 53) rfl rfl Try.func44 (by kernel_rfl) rfl #[.slice Ao33 t399.length co33] rfl zG ?_; (with_reducible refine (impl_EncodeExts.calls kj7 _ _ t399 t403 true _ ?side1 ?side2 A29.out).mono ?_); (case side1 => repeat (first | exact (Kd.S_reads' HO402.out).2.2 | (with_reducible refine Kd.C_alloc ?_ _) | (with_reducible refine Kd.C_drewN ?_ _) | (with_reducible refine Kd.C_drew ?_))); (case side2 => exact (Kd.S_reads' HO402.out).2.1); rintro e w34 ⟨v405, rfl, ho0, hb⟩; refine ⟨_, rfl, ?_⟩; have n0_ := Aside0.mk (Kd.R_elder' (zR HO398) (Kd.R_base ho0) hb); have n1_ := Aside0.mk (Kd.S_elder' (zS HO402) (Kd.R_base ho0) hb); have n2_ := Aside0.mk (Kd.R_lower (Kd.R_new' ho0 (Kd.R_lt (zR HO398))) (below_size (zB HB))); have n3_ := bS HB hb; clear HO398; clear HO402; clear HB; have HO398 := n0_; have HO402 := n1_; have HO406 := n2_; have HB := n3_; clear n0_ n1_ n2_ n3_; (try clear hb); (try clear ho0); obtain ⟨Ao35, co35, eo35⟩ := Kd.R_slice HO406.out; subst eo35) | (go_at_call 48; (with_reducible refine (impl_EqualInts.calls kj7 _ _ t396 _ _ t403 true _ ?side1 ?side2 ?side3 ?side4 A31.out).mono ?_); (case side1 => repeat (first | exact (Kd.R_reads' HO398.out).2.2 | (with_reducible refine Kd.C_alloc ?_ _) | (with_reducible refine Kd.C_drewN ?_ _) | (with_reducible refine Kd.C_drew ?_))); (case side2 => exact (Kd.R_reads' HO398.out).2.1); (case side3 => repeat (first | exact (Kd.R_reads' HO406.out).2.2 | (with_reducible refine Kd.C_alloc ?_ _) | (with_reducible refine Kd.C_drewN ?_ _) | (with_reducible refine Kd.C_drew ?_))); (case side4 => exact (Kd.R_reads' HO406.out).2.1); rintro e w' ⟨rfl, ⟨nd, rfl⟩⟩))
         go_meet
         case rel => exact ⟨_, H', ⟨by have := HJ7.out; first | omega | exact Nat.le_refl _⟩, ⟨zB HB⟩⟩
        ·replace c32 := Bool.eq_false_iff.mpr c32
         subst c32
         have H1 : (some false) = some r := by rw [if_neg (show ¬ (false = true) by decide)] at H; exact H
         clear H
         have H := H1
         clear H1
         exact absurd H (by simp [ht_])
       ·replace c30 := Bool.eq_false_iff.mpr c30
        subst c30
        have H1 : (some false) = some r := by rw [if_neg (show ¬ (false = true) by decide)] at H; exact H
        clear H
        have H := H1
        clear H1
        exact absurd H (by simp [ht_])
      ·replace c28 := Bool.eq_false_iff.mpr c28
       subst c28
       have H1 : (laws_FnExts.j1 kj7 l0) = some r := by rw [if_neg (show ¬ (false = true) by decide)] at H; exact H
       clear H
       have H := H1
       clear H1
       have H' := Aside0.mk H
       clear H
       go_wp2
       go_meet
       case rel => exact ⟨_, H', ⟨by have := HJ7.out; first | omega | exact Nat.le_refl _⟩, ⟨zB HB⟩⟩
     case rest =>
      clear HC24
      try clear c1
      try clear c2
      try clear p2
      try clear c3
      try clear c4
      try clear c7
      try clear c7b0
      try clear c7b1
      try clear c7b2
      try clear c13
      try clear c15
      try clear c17
      try clear c28
      try clear c30
      try clear c32
      try clear c35
      try clear p2
      obtain ⟨kq, HA, HJ23, HB⟩ := hcut
      cases kq with
      | zero => exact absurd HA.out (by simp [laws_FnExts.j1])
      | succ kj23 =>
       have H := HA.out
       clear HA
       simp only [laws_FnExts.j1] at H
       replace H := Option.bind_eq_some_iff.mp H
       obtain ⟨⟨t408, t409⟩, A360, H⟩ := H
       replace H : ((impl_KnownOf.f kj23 t408 t409).bind fun t414 => ((impl_TagsOf.f kj23 t414).bind fun t417 => ((laws_within.f kj23 t417 t409).bind fun t420 => (if t420 = true then ((impl_TagsOf.f kj23 t414).bind fun t421 => ((impl_TagsOf.f kj23 t408).bind fun t424 => ((laws_within.f kj23 t421 t424).bind fun t427 => (if t427 = true then ((impl_TagsOf.f kj23 t408).bind fun t428 => ((laws_left.f kj23 t428 t409).bind fun t431 => (some ((wrap64 ((t431.length : Int) + (t414.length : Int))) == (t408.length : Int))))) else (some false))))) else (some false))))) = some r := H
       have A36 := Aside0.mk A360
       clear A360
       replace H := Option.bind_eq_some_iff.mp H
       obtain ⟨t414, A370, H⟩ := H
       replace H : ((impl_TagsOf.f kj23 t414).bind fun t417 => ((laws_within.f kj23 t417 t409).bind fun t420 => (if t420 = true then ((impl_TagsOf.f kj23 t414).bind fun t421 => ((impl_TagsOf.f kj23 t408).bind fun t424 => ((laws_within.f kj23 t421 t424).bind fun t427 => (if t427 = true then ((impl_TagsOf.f kj23 t408).bind fun t428 => ((laws_left.f kj23 t428 t409).bind fun t431 => (some ((wrap64 ((t431.length : Int) + (t414.length : Int))) == (t408.length : Int))))) else (some false))))) else (some false)))) = some r := H
       have A37 := Aside0.mk A370
       clear A370
       replace H := Option.bind_eq_some_iff.mp H
       obtain ⟨t417, A380, H⟩ := H
       replace H : ((laws_within.f kj23 t417 t409).bind fun t420 => (if t420 = true then ((impl_TagsOf.f kj23 t414).bind fun t421 => ((impl_TagsOf.f kj23 t408).bind fun t424 => ((laws_within.f kj23 t421 t424).bind fun t427 => (if t427 = true then ((impl_TagsOf.f kj23 t408).bind fun t428 => ((laws_left.f kj23 t428 t409).bind fun t431 => (some ((wrap64 ((t431.length : Int) + (t414.length : Int))) == (t408.length : Int))))) else (some false))))) else (some false))) = some r := H
       have A38 := Aside0.mk A380
       clear A380
       replace H := Option.bind_eq_some_iff.mp H
       obtain ⟨t420, A390, H⟩ := H
       replace H : (if t420 = true then ((impl_TagsOf.f kj23 t414).bind fun t421 => ((impl_TagsOf.f kj23 t408).bind fun t424 => ((laws_within.f kj23 t421 t424).bind fun t427 => (if t427 = true then ((impl_TagsOf.f kj23 t408).bind fun t428 => ((laws_left.f kj23 t428 t409).bind fun t431 => (some ((wrap64 ((t431.length : Int) + (t414.length : Int))) == (t408.length : Int))))) else (some false))))) else (some false)) = some r := H
       have A39 := Aside0.mk A390
       clear A390
       by_cases c40 : t420 = true
       ·subst c40
        have H1 : ((impl_TagsOf.f kj23 t414).bind fun t421 => ((impl_TagsOf.f kj23 t408).bind fun t424 => ((laws_within.f kj23 t421 t424).bind fun t427 => (if t427 = true then ((impl_TagsOf.f kj23 t408).bind fun t428 => ((laws_left.f kj23 t428 t409).bind fun t431 => (some ((wrap64 ((t431.length : Int) + (t414.length : Int))) == (t408.length : Int))))) else (some false))))) = some r := by rw [if_pos rfl] at H; exact H
        clear H
        have H := H1
        clear H1
        replace H := Option.bind_eq_some_iff.mp H
        obtain ⟨t421, A410, H⟩ := H
        replace H : ((impl_TagsOf.f kj23 t408).bind fun t424 => ((laws_within.f kj23 t421 t424).bind fun t427 => (if t427 = true then ((impl_TagsOf.f kj23 t408).bind fun t428 => ((laws_left.f kj23 t428 t409).bind fun t431 => (some ((wrap64 ((t431.length : Int) + (t414.length : Int))) == (t408.length : Int))))) else (some false)))) = some r := H
        have A41 := Aside0.mk A410
        clear A410
        replace H := Option.bind_eq_some_iff.mp H
        obtain ⟨t424, A420, H⟩ := H
        replace H : ((laws_within.f kj23 t421 t424).bind fun t427 => (if t427 = true then ((impl_TagsOf.f kj23 t408).bind fun t428 => ((laws_left.f kj23 t428 t409).bind fun t431 => (some ((wrap64 ((t431.length : Int) + (t414.length : Int))) == (t408.length : Int))))) else (some false))) = some r := H
        have A42 := Aside0.mk A420
        clear A420
        replace H := Option.bind_eq_some_iff.mp H
        obtain ⟨t427, A430, H⟩ := H
        replace H : (if t427 = true then ((impl_TagsOf.f kj23 t408).bind fun t428 => ((laws_left.f kj23 t428 t409).bind fun t431 => (some ((wrap64 ((t431.length : Int) + (t414.length : Int))) == (t408.length : Int))))) else (some false)) = some r := H
        have A43 := Aside0.mk A430
        clear A430
        by_cases c44 : t427 = true
        ·subst c44
         have H1 : ((impl_TagsOf.f kj23 t408).bind fun t428 => ((laws_left.f kj23 t428 t409).bind fun t431 => (some ((wrap64 ((t431.length : Int) + (t414.length : Int))) == (t408.length : Int))))) = some r := by rw [if_pos rfl] at H; exact H
         clear H
         have H := H1
         clear H1
         replace H := Option.bind_eq_some_iff.mp H
         obtain ⟨t428, A450, H⟩ := H
         replace H : ((laws_left.f kj23 t428 t409).bind fun t431 => (some ((wrap64 ((t431.length : Int) + (t414.length : Int))) == (t408.length : Int)))) = some r := H
         have A45 := Aside0.mk A450
         clear A450
         replace H := Option.bind_eq_some_iff.mp H
         obtain ⟨t431, A460, H⟩ := H
         replace H : (some ((wrap64 ((t431.length : Int) + (t414.length : Int))) == (t408.length : Int))) = some r := H
         have A46 := Aside0.mk A460
         clear A460
         obtain rfl := Option.some.inj H
         go_wp2_with (first | ((with_reducible refine gate_callee (f := 49) rfl ?_); refine goesL_ (some 66) rfl rfl Try.func49 (by kernel_rfl) rfl #[.slice A0 l0.length c0] rfl zG ?_; (with_reducible refine (spec_DrawKnownOf.calls kj23 _ _ l0 t408 t409 _ ?side1 ?side2 A36.out).mono ?_); (case side1 => exact cS HR0 HB); (case side2 => exact HC0.out); rintro e w47 ⟨v410, v412, rfl, ho0, ho1, hb⟩; refine ⟨_, rfl, ?_⟩; have n0_ := Aside0.mk (Kd.S_lower ho0 (below_size (zB HB))); have n1_ := Aside0.mk (Kd.R_lower ho1 (below_size (zB HB))); have n2_ := bS HB hb; clear HB; have HO411 := n0_; have HO413 := n1_; have HB := n2_; clear n0_ n1_ n2_; (try clear hb); (try clear ho0); (try clear ho1); obtain ⟨Ao48, co48, eo48⟩ := Kd.S_slice HO411.out; subst eo48; obtain ⟨Ao49, co49, eo49⟩ := Kd.R_slice HO413.out; subst eo49) | ((with_reducible refine gate_callee (f := 40) rfl ?_); refine goesL_ (some 71) rfl rfl Try.func40 (by kernel_rfl) rfl #[.slice Ao48 t408.length co48, .slice Ao49 t409.length co49] rfl zG ?_; (with_reducible refine (impl_KnownOf.calls kj23 _ _ t408 _ _ t409 t414 _ ?side1 ?side2 ?side3 ?side4 A37.out).mono ?_); (case side1 => repeat (first | exact (Kd.S_reads' HO411.out).2.2 | (with_reducible refine Kd.C_alloc ?_ _) | (with_reducible refine Kd.C_drewN ?_ _) | (with_reducible refine Kd.C_drew ?_))); (case side2 => exact (Kd.S_reads' HO411.out).2.1); (case side3 => repeat (first | exact (Kd.R_reads' HO413.out).2.2 | (with_reducible refine Kd.C_alloc ?_ _) | (with_reducible refine Kd.C_drewN ?_ _) | (with_reducible refine Kd.C_drew ?_))); (case side4 => exact (Kd.R_reads' HO413.out).2.1); rintro e w50 ⟨v415, rfl, ho0, hb⟩; refine ⟨_, rfl, ?_⟩; have n0_ := Aside0.mk (Kd.S_elder' (zS HO411) (Kd.S_base ho0) hb); have n1_ := Aside0.mk (Kd.R_below (zR HO413) hb); have n2_ := Aside0.mk (Kd.S_lower (Kd.S_new' (Kd.S_new' ho0 (Kd.S_lt (zS HO411))) (Kd.R_lt (zR HO413))) (below_size (zB HB))); have n3_ := bS HB hb; clear HO411; clear HO413; clear HB; have HO411 := n0_; have HO413 := n1_; have HO416 := n2_; have HB := n3_; clear n0_ n1_ n2_ n3_; (try clear hb); (try clear ho0); obtain ⟨Ao51, co51, eo51⟩ := Kd.S_slice HO416.out; subst eo51) | ((with_reducible refine gate_callee (f := 28) rfl ?_); refine goesL_ (some 73) rfl rfl Try.func28 (by kernel_rfl) rfl #[.slice Ao51 t414.length co51] rfl zG ?_; (with_reducible refine (impl_TagsOf.calls kj23 _ _ t414 t417 _ ?side1 ?side2 A38.out).mono ?_); (case side1 => repeat (first | exact (Kd.S_reads' HO416.out).2.2 | (with_reducible refine Kd.C_alloc ?_ _) | (with_reducible refine Kd.C_drewN ?_ _) | (with_reducible refine Kd.C_drew ?_))); (case side2 => exact (Kd.S_reads' HO416.out).2.1); rintro e w52 ⟨v418, rfl, ho0, hb⟩; refine ⟨_, rfl, ?_⟩; have n0_ := Aside0.mk (Kd.S_elder' (zS HO411) (Kd.R_base ho0) hb); have n1_ := Aside0.mk (Kd.R_elder' (zR HO413) (Kd.R_base ho0) hb); have n2_ := Aside0.mk (Kd.S_elder' (zS HO416) (Kd.R_base ho0) hb); have n3_ := Aside0.mk (Kd.R_lower (Kd.R_new' ho0 (Kd.R_lt (zR HO413))) (below_size (zB HB))); have n4_ := bS HB hb; clear HO411; clear HO413; clear HO416; clear HB; have HO411 := n0_; have HO413 := n1_; have HO416 := n2_; have HO419 := n3_; have HB := n4_; clear n0_ n1_ n2_ n3_ n4_; (try clear hb); (try clear ho0); obtain ⟨Ao53, co53, eo53⟩ := Kd.R_slice HO419.out; subst eo53) | ((with_reducible refine gate_callee (f := 50) rfl ?_); refine goesL_ (some 75) rfl rfl Try.func50 (by kernel_rfl) rfl #[.slice Ao53 t417.length co53, .slice Ao49 t409.length co49] rfl zG ?_; (with_reducible refine (laws_within.calls kj23 _ _ t417 _ _ t409 true _ ?side1 ?side2 ?side3 ?side4 A39.out).mono ?_); (case side1 => repeat (first | exact (Kd.R_reads' HO419.out).2.2 | (with_reducible refine Kd.C_alloc ?_ _) | (with_reducible refine Kd.C_drewN ?_ _) | (with_reducible refine Kd.C_drew ?_))); (case side2 => exact (Kd.R_reads' HO419.out).2.1); (case side3 => repeat (first | exact (Kd.R_reads' HO413.out).2.2 | (with_reducible refine Kd.C_alloc ?_ _) | (with_reducible refine Kd.C_drewN ?_ _) | (with_reducible refine Kd.C_drew ?_))); (case side4 => exact (Kd.R_reads' HO413.out).2.1); rintro e w' ⟨rfl, ⟨nd, rfl⟩⟩; refine ⟨_, rfl, ?_⟩) | (go_at_call 28; (with_reducible refine (impl_TagsOf.calls kj23 _ _ t414 t421 _ ?side1 ?side2 A41.out).mono ?_); (case side1 => repeat (first | exact (Kd.S_reads' HO416.out).2.2 | (with_reducible refine Kd.C_alloc ?_ _) | (with_reducible refine Kd.C_drewN ?_ _) | (with_reducible refine Kd.C_drew ?_))); (case side2 => exact (Kd.S_reads' HO416.out).2.1); rintro e w54 ⟨v422, rfl, ho0, hb⟩; have n0_ := Aside0.mk (Kd.S_elder' (zS HO411) (Kd.R_base ho0) hb); have n1_ := Aside0.mk (Kd.R_elder' (zR HO413) (Kd.R_base ho0) hb); have n2_ := Aside0.mk (Kd.S_elder' (zS HO416) (Kd.R_base ho0) hb); have n3_ := Aside0.mk (Kd.R_elder' (zR HO419) (Kd.R_base ho0) hb); have n4_ := Aside0.mk (Kd.R_lower (Kd.R_new' (Kd.R_new' ho0 (Kd.R_lt (zR HO413))) (Kd.R_lt (zR HO419))) (below_size (zB HB))); have n5_ := bS HB hb; clear HO411; clear HO413; clear HO416; clear HO419; clear HB; have HO411 := n0_; have HO413 := n1_; have HO416 := n2_; have HO419 := n3_; have HO423 := n4_; have HB := n5_; clear n0_ n1_ n2_ n3_ n4_ n5_; (try clear hb); (try clear ho0)) | (go_at_call 28; (with_reducible refine (impl_TagsOf.calls kj23 _ _ t408 t424 _ ?side1 ?side2 A42.out).mono ?_); (case side1 => repeat (first | exact (Kd.S_reads' HO411.out).2.2 | (with_reducible refine Kd.C_alloc ?_ _) | (with_reducible refine Kd.C_drewN ?_ _) | (with_reducible refine Kd.C_drew ?_))); (case side2 => exact (Kd.S_reads' HO411.out).2.1); rintro e w55 ⟨v425, rfl, ho0, hb⟩; have n0_ := Aside0.mk (Kd.S_elder' (zS HO411) (Kd.R_base ho0) hb); have n1_ := Aside0.mk (Kd.R_elder' (zR HO413) (Kd.R_base ho0) hb); have n2_ := Aside0.mk (Kd.S_elder' (zS HO416) (Kd.R_base ho0) hb); have n3_ := Aside0.mk (Kd.R_elder' (zR HO419) (Kd.R_base ho0) hb); have n4_ := Aside0.mk (Kd.R_elder' (zR HO423) (Kd.R_base ho0) hb); have n5_ := Aside0.mk (Kd.R_lower (Kd.R_new' (Kd.R_new' (Kd.R_new' ho0 (Kd.R_lt (zR HO413))) (Kd.R_lt (zR HO419))) (Kd.R_lt (zR HO423))) (below_size (zB HB))); have n6_ := bS HB hb; clear HO411; clear HO413; clear HO416; clear HO419; clear HO423; clear HB; have HO411 := n0_; have HO413 := n1_; have HO416 := n2_; have HO419 := n3_; have HO423 := n4_; have HO426 := n5_; have HB := n6_; clear n0_ n1_ n2_ n3_ n4_ n5_ n6_; (try clear hb); (try clear ho0); obtain ⟨Ao56, co56, eo56⟩ := Kd.R_slice HO423.out; subst eo56; obtain ⟨Ao57, co57, eo57⟩ := Kd.R_slice HO426.out; subst eo57) | (go_at_call 50; (with_reducible refine (laws_within.calls kj23 _ _ t421 _ _ t424 true _ ?side1 ?side2 ?side3 ?side4 A43.out).mono ?_); (case side1 => repeat (first | exact (Kd.R_reads' HO423.out).2.2 | (with_reducible refine Kd.C_alloc ?_ _) | (with_reducible refine Kd.C_drewN ?_ _) | (with_reducible refine Kd.C_drew ?_))); (case side2 => exact (Kd.R_reads' HO423.out).2.1); (case side3 => repeat (first | exact (Kd.R_reads' HO426.out).2.2 | (with_reducible refine Kd.C_alloc ?_ _) | (with_reducible refine Kd.C_drewN ?_ _) | (with_reducible refine Kd.C_drew ?_))); (case side4 => exact (Kd.R_reads' HO426.out).2.1); rintro e w' ⟨rfl, ⟨nd, rfl⟩⟩) | (go_at_call 28; (with_reducible refine (impl_TagsOf.calls kj23 _ _ t408 t428 _ ?side1 ?side2 A45.out).mono ?_); (case side1 => repeat (first | exact (Kd.S_reads' HO411.out).2.2 | (with_reducible refine Kd.C_alloc ?_ _) | (with_reducible refine Kd.C_drewN ?_ _) | (with_reducible refine Kd.C_drew ?_))); (case side2 => exact (Kd.S_reads' HO411.out).2.1); rintro e w58 ⟨v429, rfl, ho0, hb⟩; have n0_ := Aside0.mk (Kd.S_elder' (zS HO411) (Kd.R_base ho0) hb); have n1_ := Aside0.mk (Kd.R_elder' (zR HO413) (Kd.R_base ho0) hb); have n2_ := Aside0.mk (Kd.S_elder' (zS HO416) (Kd.R_base ho0) hb); have n3_ := Aside0.mk (Kd.R_elder' (zR HO419) (Kd.R_base ho0) hb); have n4_ := Aside0.mk (Kd.R_elder' (zR HO423) (Kd.R_base ho0) hb); have n5_ := Aside0.mk (Kd.R_elder' (zR HO426) (Kd.R_base ho0) hb); have n6_ := Aside0.mk (Kd.R_lower (Kd.R_new' (Kd.R_new' (Kd.R_new' (Kd.R_new' ho0 (Kd.R_lt (zR HO413))) (Kd.R_lt (zR HO419))) (Kd.R_lt (zR HO423))) (Kd.R_lt (zR HO426))) (below_size (zB HB))); have n7_ := bS HB hb; clear HO411; clear HO413; clear HO416; clear HO419; clear HO423; clear HO426; clear HB; have HO411 := n0_; have HO413 := n1_; have HO416 := n2_; have HO419 := n3_; have HO423 := n4_; have HO426 := n5_; have HO430 := n6_; have HB := n7_; clear n0_ n1_ n2_ n3_ n4_ n5_ n6_ n7_; (try clear hb); (try clear ho0); obtain ⟨Ao59, co59, eo59⟩ := Kd.R_slice HO430.out; subst eo59) | (go_at_call 51; (with_reducible refine (laws_left.calls kj23 _ _ t428 _ _ t409 t431 _ ?side1 ?side2 ?side3 ?side4 A46.out).mono ?_); (case side1 => repeat (first | exact (Kd.R_reads' HO430.out).2.2 | (with_reducible refine Kd.C_alloc ?_ _) | (with_reducible refine Kd.C_drewN ?_ _) | (with_reducible refine Kd.C_drew ?_))); (case side2 => exact (Kd.R_reads' HO430.out).2.1); (case side3 => repeat (first | exact (Kd.R_reads' HO413.out).2.2 | (with_reducible refine Kd.C_alloc ?_ _) | (with_reducible refine Kd.C_drewN ?_ _) | (with_reducible refine Kd.C_drew ?_))); (case side4 => exact (Kd.R_reads' HO413.out).2.1); rintro e w60 ⟨v432, rfl, ho0, hb⟩; have n0_ := Aside0.mk (Kd.S_elder' (zS HO411) (Kd.R_base ho0) hb); have n1_ := Aside0.mk (Kd.R_elder' (zR HO413) (Kd.R_base ho0) hb); have n2_ := Aside0.mk (Kd.S_elder' (zS HO416) (Kd.R_base ho0) hb); have n3_ := Aside0.mk (Kd.R_elder' (zR HO419) (Kd.R_base ho0) hb); have n4_ := Aside0.mk (Kd.R_elder' (zR HO423) (Kd.R_base ho0) hb); have n5_ := Aside0.mk (Kd.R_elder' (zR HO426) (Kd.R_base ho0) hb); have n6_ := Aside0.mk (Kd.R_elder' (zR HO430) (Kd.R_base ho0) hb); have n7_ := Aside0.mk (Kd.R_lower (Kd.R_new' (Kd.R_new' (Kd.R_new' (Kd.R_new' (Kd.R_new' ho0 (Kd.R_lt (zR HO413))) (Kd.R_lt (zR HO419))) (Kd.R_lt (zR HO423))) (Kd.R_lt (zR HO426))) (Kd.R_lt (zR HO430))) (below_size (zB HB))); have n8_ := bS HB hb; clear HO411; clear HO413; clear HO416; clear HO419; clear HO423; clear HO426; clear HO430; clear HB; have HO411 := n0_; have HO413 := n1_; have HO416 := n2_; have HO419 := n3_; have HO423 := n4_; have HO426 := n5_; have HO430 := n6_; have HO433 := n7_; have HB := n8_; clear n0_ n1_ n2_ n3_ n4_ n5_ n6_ n7_ n8_; (try clear hb); (try clear ho0); obtain ⟨Ao61, co61, eo61⟩ := Kd.R_slice HO433.out; subst eo61))
         go_ret
         exact ⟨by first | rfl | (simp [errW_none, errW_some] <;> rfl) | (simp [*, errW_none, errW_some] <;> rfl), by repeat (first | (with_reducible first | exact HB.out | apply below_alloc | apply pw_below_drewN | apply below_drew1) | exact HB.out)⟩
        ·replace c44 := Bool.eq_false_iff.mpr c44
         subst c44
         have H1 : (some false) = some r := by rw [if_neg (show ¬ (false = true) by decide)] at H; exact H
         clear H
         have H := H1
         clear H1
         exact absurd H (by simp [ht_])
       ·replace c40 := Bool.eq_false_iff.mpr c40
        subst c40
        have H1 : (some false) = some r := by rw [if_neg (show ¬ (false = true) by decide)] at H; exact H
        clear H
        have H := H1
        clear H1
        exact absurd H (by simp [ht_])

/-- THE ONE PURE STATEMENT of laws_FnExts: yours. -/
def laws_FnExts.Pure : Prop := ∀ (l0 : List Int), l0.length ≤ maxLen → l0.length * 1 ≤ 140737488351232 → (∀ x ∈ l0, (Lit.int .u8 x).wf = true) → ∃ k, laws_FnExts.f k l0 = some true
theorem laws_FnExts.walk (P : laws_FnExts.Pure) (a0 : Option Addr) (len0 cap0 : Nat) (z0 : List Int) (w : World) (w0 : (a0 = none ∧ len0 = 0 ∧ cap0 = 0 ∧ z0 = []) ∨ ∃ x, a0 = some x ∧ len0 ≤ cap0 ∧ cap0 ≤ maxLen ∧ z0.length = cap0 ∧ (∀ i, i < z0.length → w.cell? (x.add i) = some (.int .u8 (z0.getD i 0))) ∧ ∀ n ∈ z0, (Lit.int .u8 n).wf = true) (y0 : len0 * 1 ≤ 140737488351232) :
  Calls Try.prog 13 #[.slice a0 len0 cap0] w fun e w' => e = .returned (.bool true) ∧ Below w.heap.size w w' := by
 obtain ⟨l0, rfl, hr0, hm0, hw0, hc0⟩ := ReadsInt.ofRowC w0
 obtain ⟨k, h⟩ := P l0 hm0 y0 hw0
 refine (laws_FnExts.calls k _ _ l0 true w (Kd.C_of_reads (d := (0 : Int)) (h1 := fun _ => rfl) hr0) hc0 rfl h).mono ?_
 rintro e w' ⟨rfl, hd⟩
 exact ⟨rfl, hd⟩

end Go.Proofs.Ytljoejddjendbaa.PFnExts
