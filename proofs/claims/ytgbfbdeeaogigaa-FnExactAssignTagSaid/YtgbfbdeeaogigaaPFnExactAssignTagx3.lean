-- WRITTEN by pp.py, this session's own wrapper around the print; not trusted: Lean checks it
import Derived.Test.YtgbfbdeeaogigaaPFnExactAssignTagx0
import Derived.Test.YtgbfbdeeaogigaaPFnExactAssignTagx1
import Derived.Test.YtgbfbdeeaogigaaPFnExactAssignTagx2
namespace Go.Proofs.Ytgbfbdeeaogigaa.PFnExactAssignTag
open Go.RowKit Go.Proofs.Ytgbfbdeeaogigaa.Hw Go.Proofs.YtgbfbdeeaogigaaW.PrintWords Go.Proofs.YtgbfbdeeaogigaaW.PrintLast Go.Proofs.YtgbfbdeeaogigaaW.PrintMore
attribute [local go_sem] max2_int min2_int max_two min_two max_three min_three max_four min_four   -- for this text's walks alone
set_option linter.unusedVariables false
set_option linter.unusedSimpArgs false
set_option linter.unusedSectionVars false

/-! ### spec_OwnerOf: function 26 -/
def spec_OwnerOf.l0 : Nat → List (S43) → Int → Int → Option (Int)
 | 0, _, _, _ => none
 | k + 1, x0, x1, x5 => if x5 < (x0.length : Int) then (if 0 ≤ x5 then (if ((rd_T43 x0 x5).f0) = x1 then (some ((rd_T43 x0 x5).f1)) else (spec_OwnerOf.l0 k x0 x1 (wrap64 (x5 + 1)))) else (none)) else (some (-1))
def spec_OwnerOf.f (k : Nat) (l0 : List (S43)) (a1 : Int) : Option (Int) := spec_OwnerOf.l0 k l0 a1 0
theorem spec_OwnerOf.mono_l : ∀ k, (∀ y0 y1 y2, LeO (spec_OwnerOf.l0 k y0 y1 y2) (spec_OwnerOf.l0 (k + 1) y0 y1 y2))
 | 0 => fun _ _ _ r h => by simp [spec_OwnerOf.l0] at h
 | k + 1 => by
  have ih0 := spec_OwnerOf.mono_l k
  ·intro y0 y1 y2
   unfold spec_OwnerOf.l0
   repeat' first
   | (with_reducible exact ih0 _ _ _)
   | (with_reducible exact LeO.refl _)
   | (with_reducible exact LeO.none _)
   | (with_reducible refine LeO.ite ?_ ?_)
   | (with_reducible refine LeO.bind ?_ (fun _ => ?_))
   | exact ih0 _ _ _
   | exact LeO.none _
   | refine LeO.ite ?_ ?_
   | refine LeO.bind ?_ (fun _ => ?_)
theorem spec_OwnerOf.mono : ∀ a0 a1 k, LeO (spec_OwnerOf.f k a0 a1) (spec_OwnerOf.f (k + 1) a0 a1) := by
 intro a0 a1 k
 have ih0 := spec_OwnerOf.mono_l k
 unfold spec_OwnerOf.f
 repeat' first
   | (with_reducible exact ih0 _ _ _)
   | (with_reducible exact LeO.refl _)
   | (with_reducible exact LeO.none _)
   | (with_reducible refine LeO.ite ?_ ?_)
   | (with_reducible refine LeO.bind ?_ (fun _ => ?_))
   | exact ih0 _ _ _
   | exact LeO.none _
   | refine LeO.ite ?_ ?_
   | refine LeO.bind ?_ (fun _ => ?_)
set_option maxHeartbeats 8000000 in
set_option maxRecDepth 100000 in
theorem spec_OwnerOf.calls (k : Nat) (A0 : Option Addr) (c0 : Nat) (l0 : List (S43)) (a1 : Int) (r : Int) (w : World) (hr0 : Kd.C k43 w A0 l0.length l0) (hc0 : l0.length ≤ c0) (h : spec_OwnerOf.f k l0 a1 = some r) :
  Calls Try.prog 26 #[.slice A0 l0.length c0, .int .i64 a1] w fun e w' => e = .returned (.int .i64 r) ∧ Drawn0 w w' := by
 have HR0 := Aside0.mk hr0
 have HC0 := Aside0.mk hc0
 clear hr0 hc0
 have H : (spec_OwnerOf.l0 k l0 a1 0) = some r := h
 clear h
 have H' := Aside0.mk H
 clear H
 go_enter Try.func26, Try.ntmps26
 go_wp2
 go_loopg [5] k (fun kq v5 w' => ∃ (x5_1 : Int), v5 = .int .i64 x5_1 ∧ Aside0 (spec_OwnerOf.l0 kq l0 a1 x5_1 = some r) ∧ Aside0 (kq ≤ k) ∧ Drawn0 w w')
 case atStart => exact ⟨(0), zF, H', ⟨Nat.le_refl _⟩, by repeat (first | exact Drawn0.refl _ | apply Drawn0.step)⟩
 case round =>
  clear H'
  try clear c2
  try clear p2
  obtain ⟨x5_1, rfl, HA, HK1, ⟨m1, rfl⟩⟩ := hrel
  cases gk with
  | zero => exact absurd HA.out (by simp [spec_OwnerOf.l0])
  | succ k1 =>
   have H := HA.out
   clear HA
   simp only [spec_OwnerOf.l0] at H
   by_cases c3 : x5_1 < (l0.length : Int)
   ·rw [if_pos c3] at H
    have c3b0 : decide (x5_1 < (l0.length : Int)) = true := decide_eq_true c3
    clear c3
    obtain ⟨c4, H⟩ := ifS H
    have c4b0 : decide (0 ≤ x5_1) = true := decide_eq_true c4
    clear c4
    by_cases c5 : ((rd_T43 l0 x5_1).f0) = a1
    ·rw [if_pos c5] at H
     have c5b0 : (((rd_T43 l0 x5_1).f0) == a1) = true := beq_iff_eq.mpr c5
     have c5b1 : (((rd_T43 l0 x5_1).f0) != a1) = false := bne_eq_false_iff_eq.mpr c5
     clear c5
     obtain rfl := Option.some.inj H
     have p110 : 0 ≤ (x5_1 : Int) := zD
     have q110 : x5_1 < (l0.length : Int) := zD
     obtain ⟨ad110, e110, hx110_0, hx110_1, hx110_2⟩ := at_T43 HR0.out x5_1 p110 q110
     cases e110
     replace p110 := eq_true p110
     replace q110 := eq_true q110
     have p111 : 0 ≤ (x5_1 : Int) := zD
     have q111 : x5_1 < (l0.length : Int) := zD
     obtain ⟨ad111, e111, hx111_0, hx111_1, hx111_2⟩ := at_T43 HR0.out x5_1 p111 q111
     obtain rfl : ad110 = ad111 := (by injection e111)
     replace p111 := eq_true p111
     replace q111 := eq_true q111
     go_wp2
     go_ret
     exact ⟨by first | rfl | (simp; done) | (simp [*]; done), by repeat (first | exact Drawn0.refl _ | apply Drawn0.step)⟩
    ·rw [if_neg c5] at H
     have c5b0 : (((rd_T43 l0 x5_1).f0) == a1) = false := beq_eq_false_iff_ne.mpr c5
     have c5b1 : (((rd_T43 l0 x5_1).f0) != a1) = true := bne_iff_ne.mpr c5
     have H' := Aside0.mk H
     clear H
     have p110 : 0 ≤ (x5_1 : Int) := zD
     have q110 : x5_1 < (l0.length : Int) := zD
     obtain ⟨ad110, e110, hx110_0, hx110_1, hx110_2⟩ := at_T43 HR0.out x5_1 p110 q110
     cases e110
     replace p110 := eq_true p110
     replace q110 := eq_true q110
     go_wp2
     go_roundg k1
     case measure => have := HK1.out; omega
     case rel => exact ⟨(wrap64 (x5_1 + 1)), zF, H', ⟨by have := HK1.out; omega⟩, by repeat (first | exact Drawn0.refl _ | apply Drawn0.step)⟩
   ·rw [if_neg c3] at H
    have c3b0 : decide (x5_1 < (l0.length : Int)) = false := decide_eq_false c3
    clear c3
    obtain rfl := Option.some.inj H
    go_wp2
    go_ret
    exact ⟨by first | rfl | (simp; done) | (simp [*]; done), by repeat (first | exact Drawn0.refl _ | apply Drawn0.step)⟩

/-! ### spec_AssignTag: function 6 -/
mutual
def spec_AssignTag.j0 : Nat → List (S43) → Int → Bool → Option ((List (S43)) × Int × Bool)
 | 0, _, _, _ => none
 | k + 1, x0, x1, x22 => if x22 = true then ((some (([] : List (S43)) : List (S43))).bind fun y114 => (if y114.length + x0.length < 5864062014805 then (some ((y114 ++ x0), (-1), false)) else (none))) else (spec_AssignTag.l0 k x0 x1 0)
def spec_AssignTag.l0 : Nat → List (S43) → Int → Int → Option ((List (S43)) × Int × Bool)
 | 0, _, _, _ => none
 | k + 1, x0, x1, x7 => (spec_IsReserved.f x7).bind fun t120 => (if t120 = true then (spec_AssignTag.l0 k x0 x1 (wrap64 (x7 + 1))) else ((spec_OwnerOf.f k x0 x7).bind fun t121 => (if t121 ≥ 0 then (spec_AssignTag.l0 k x0 x1 (wrap64 (x7 + 1))) else (spec_AssignTag.l1 k x0 x1 x7 0))))
def spec_AssignTag.l1 : Nat → List (S43) → Int → Int → Int → Option ((List (S43)) × Int × Bool)
 | 0, _, _, _, _ => none
 | k + 1, x0, x1, x7, x8 => if x8 < (x0.length : Int) then (if 0 ≤ x8 then (if ((rd_T43 x0 x8).f0) < x7 then (spec_AssignTag.l1 k x0 x1 x7 (wrap64 (x8 + 1))) else ((some (([] : List (S43)) : List (S43))).bind fun y123 => (if x8 ≤ (x0.length : Int) then ((some (x0.take (x8 : Int).toNat : List (S43))).bind fun y126 => (if y123.length + y126.length < 5864062014805 then ((some (y123 ++ y126 : List (S43))).bind fun y130 => (if y130.length < 5864062014805 then ((some (y130 ++ [(⟨x7, x1, false⟩ : S43)] : List (S43))).bind fun y133 => ((some (x0.drop (x8 : Int).toNat : List (S43))).bind fun y136 => (if y133.length + y136.length < 5864062014805 then (some ((y133 ++ y136), x7, true)) else (none)))) else (none))) else (none))) else (none)))) else (none)) else ((some (([] : List (S43)) : List (S43))).bind fun y143 => (if 0 ≤ x8 then (if x8 ≤ (x0.length : Int) then ((some (x0.take (x8 : Int).toNat : List (S43))).bind fun y146 => (if y143.length + y146.length < 5864062014805 then ((some (y143 ++ y146 : List (S43))).bind fun y150 => (if y150.length < 5864062014805 then ((some (y150 ++ [(⟨x7, x1, false⟩ : S43)] : List (S43))).bind fun y153 => ((some (x0.drop (x8 : Int).toNat : List (S43))).bind fun y156 => (if y153.length + y156.length < 5864062014805 then (some ((y153 ++ y156), x7, true)) else (none)))) else (none))) else (none))) else (none)) else (none)))
end
def spec_AssignTag.f (k : Nat) (l0 : List (S43)) (a1 : Int) : Option ((List (S43)) × Int × Bool) := (spec_IsRegistry.f k l0).bind fun t112 => (if t112 = true then ((spec_l1In.f a1 0 9).bind fun t113 => (if t113 = true then (spec_AssignTag.j0 k l0 a1 (decide ((l0.length : Int) ≥ 12))) else (spec_AssignTag.j0 k l0 a1 true))) else (spec_AssignTag.j0 k l0 a1 true))
theorem spec_AssignTag.mono_l : ∀ k, (∀ y0 y1 y2, LeO (spec_AssignTag.j0 k y0 y1 y2) (spec_AssignTag.j0 (k + 1) y0 y1 y2)) ∧ (∀ y0 y1 y2, LeO (spec_AssignTag.l0 k y0 y1 y2) (spec_AssignTag.l0 (k + 1) y0 y1 y2)) ∧ (∀ y0 y1 y2 y3, LeO (spec_AssignTag.l1 k y0 y1 y2 y3) (spec_AssignTag.l1 (k + 1) y0 y1 y2 y3))
 | 0 => ⟨fun _ _ _ r h => by simp [spec_AssignTag.j0] at h, fun _ _ _ r h => by simp [spec_AssignTag.l0] at h, fun _ _ _ _ r h => by simp [spec_AssignTag.l1] at h⟩
 | k + 1 => by
  obtain ⟨ih0, ih1, ih2⟩ := spec_AssignTag.mono_l k
  refine ⟨?_, ?_, ?_⟩
  ·intro y0 y1 y2
   unfold spec_AssignTag.j0
   repeat' first
   | (with_reducible exact ih0 _ _ _)
   | (with_reducible exact ih1 _ _ _)
   | (with_reducible exact ih2 _ _ _ _)
   | (with_reducible exact spec_IsRegistry.mono _ _)
   | (with_reducible exact spec_OwnerOf.mono _ _ _)
   | (with_reducible exact LeO.refl _)
   | (with_reducible exact LeO.none _)
   | (with_reducible refine LeO.ite ?_ ?_)
   | (with_reducible refine LeO.bind ?_ (fun _ => ?_))
   | exact ih0 _ _ _
   | exact ih1 _ _ _
   | exact ih2 _ _ _ _
   | exact spec_IsRegistry.mono _ _
   | exact spec_OwnerOf.mono _ _ _
   | exact LeO.none _
   | refine LeO.ite ?_ ?_
   | refine LeO.bind ?_ (fun _ => ?_)
  ·intro y0 y1 y2
   unfold spec_AssignTag.l0
   repeat' first
   | (with_reducible exact ih0 _ _ _)
   | (with_reducible exact ih1 _ _ _)
   | (with_reducible exact ih2 _ _ _ _)
   | (with_reducible exact spec_IsRegistry.mono _ _)
   | (with_reducible exact spec_OwnerOf.mono _ _ _)
   | (with_reducible exact LeO.refl _)
   | (with_reducible exact LeO.none _)
   | (with_reducible refine LeO.ite ?_ ?_)
   | (with_reducible refine LeO.bind ?_ (fun _ => ?_))
   | exact ih0 _ _ _
   | exact ih1 _ _ _
   | exact ih2 _ _ _ _
   | exact spec_IsRegistry.mono _ _
   | exact spec_OwnerOf.mono _ _ _
   | exact LeO.none _
   | refine LeO.ite ?_ ?_
   | refine LeO.bind ?_ (fun _ => ?_)
  ·intro y0 y1 y2 y3
   unfold spec_AssignTag.l1
   repeat' first
   | (with_reducible exact ih0 _ _ _)
   | (with_reducible exact ih1 _ _ _)
   | (with_reducible exact ih2 _ _ _ _)
   | (with_reducible exact spec_IsRegistry.mono _ _)
   | (with_reducible exact spec_OwnerOf.mono _ _ _)
   | (with_reducible exact LeO.refl _)
   | (with_reducible exact LeO.none _)
   | (with_reducible refine LeO.ite ?_ ?_)
   | (with_reducible refine LeO.bind ?_ (fun _ => ?_))
   | exact ih0 _ _ _
   | exact ih1 _ _ _
   | exact ih2 _ _ _ _
   | exact spec_IsRegistry.mono _ _
   | exact spec_OwnerOf.mono _ _ _
   | exact LeO.none _
   | refine LeO.ite ?_ ?_
   | refine LeO.bind ?_ (fun _ => ?_)
theorem spec_AssignTag.mono : ∀ a0 a1 k, LeO (spec_AssignTag.f k a0 a1) (spec_AssignTag.f (k + 1) a0 a1) := by
 intro a0 a1 k
 obtain ⟨ih0, ih1, ih2⟩ := spec_AssignTag.mono_l k
 unfold spec_AssignTag.f
 repeat' first
   | (with_reducible exact ih0 _ _ _)
   | (with_reducible exact ih1 _ _ _)
   | (with_reducible exact ih2 _ _ _ _)
   | (with_reducible exact spec_IsRegistry.mono _ _)
   | (with_reducible exact spec_OwnerOf.mono _ _ _)
   | (with_reducible exact LeO.refl _)
   | (with_reducible exact LeO.none _)
   | (with_reducible refine LeO.ite ?_ ?_)
   | (with_reducible refine LeO.bind ?_ (fun _ => ?_))
   | exact ih0 _ _ _
   | exact ih1 _ _ _
   | exact ih2 _ _ _ _
   | exact spec_IsRegistry.mono _ _
   | exact spec_OwnerOf.mono _ _ _
   | exact LeO.none _
   | refine LeO.ite ?_ ?_
   | refine LeO.bind ?_ (fun _ => ?_)
set_option maxHeartbeats 8000000 in
set_option maxRecDepth 100000 in
theorem spec_AssignTag.calls (k : Nat) (A0 : Option Addr) (c0 : Nat) (l0 : List (S43)) (a1 : Int) (r1 : List (S43)) (r2 : Int) (r3 : Bool) (w : World) (hr0 : Kd.C k43 w A0 l0.length l0) (hc0 : l0.length ≤ c0) (h : spec_AssignTag.f k l0 a1 = some (r1, r2, r3)) :
  Calls Try.prog 6 #[.slice A0 l0.length c0, .int .i64 a1] w fun e w' => ∃ v0_ : Value, e = .returned (.tuple #[v0_, .int .i64 r2, .bool r3]) ∧ Kd.R k43 43 w' w.heap.size (fun _ => True) v0_ r1 ∧ Below w.heap.size w w' := by
 have hu43 := Try.underlying43
 have HR0 := Aside0.mk hr0
 have HC0 := Aside0.mk hc0
 clear hr0 hc0
 have HB := Aside0.mk (Below.refl w.heap.size w)
 have H : ((spec_IsRegistry.f k l0).bind fun t112 => (if t112 = true then ((spec_l1In.f a1 0 9).bind fun t113 => (if t113 = true then (spec_AssignTag.j0 k l0 a1 (decide ((l0.length : Int) ≥ 12))) else (spec_AssignTag.j0 k l0 a1 true))) else (spec_AssignTag.j0 k l0 a1 true))) = some (r1, r2, r3) := h
 clear h
 have HC3 := Aside0.mk H
 clear H
 go_enter Try.func6, Try.ntmps6
 go_upto_region 1 with (fail)
 go_cut [22] (fun v22 wc => ∃ (kq : Nat) (x22_2 : Bool), v22 = .bool x22_2 ∧ Aside0 (spec_AssignTag.j0 kq l0 a1 x22_2 = some (r1, r2, r3)) ∧ Aside0 (kq ≤ k) ∧ Aside0 (Below w.heap.size w wc))
 case first =>
  have H := HC3.out
  clear HC3
  obtain ⟨t112, A4, H⟩ := bindS H
  by_cases c5 : t112 = true
  ·subst c5
   have H1 : ((spec_l1In.f a1 0 9).bind fun t113 => (if t113 = true then (spec_AssignTag.j0 k l0 a1 (decide ((l0.length : Int) ≥ 12))) else (spec_AssignTag.j0 k l0 a1 true))) = some (r1, r2, r3) := by rw [if_pos rfl] at H; exact H
   clear H
   have H := H1
   clear H1
   obtain ⟨t113, A6, H⟩ := bindS H
   by_cases c7 : t113 = true
   ·subst c7
    have H1 : (spec_AssignTag.j0 k l0 a1 (decide ((l0.length : Int) ≥ 12))) = some (r1, r2, r3) := by rw [if_pos rfl] at H; exact H
    clear H
    have H := H1
    clear H1
    have H' := Aside0.mk H
    clear H
    go_wp2_with (first | ((with_reducible refine gate_callee (f := 23) rfl ?_); refine goesL_ (some 11) rfl rfl Try.func23 (by kernel_rfl) rfl #[.slice A0 l0.length c0] rfl zG ?_; (with_reducible refine (spec_IsRegistry.calls k _ _ l0 true _ ?side1 ?side2 A4.out).mono ?_); (case side1 => exact cS HR0 HB); (case side2 => exact HC0.out); rintro e w8 ⟨rfl, hb⟩; refine ⟨_, rfl, ?_⟩; replace HB := bS HB hb; (try clear hb)) | (go_at_call 24; (with_reducible refine (spec_l1In.calls a1 0 9 true _ A6.out).mono ?_); rintro e w' ⟨rfl, ⟨nd, rfl⟩⟩))
    go_meet
    case rel => exact ⟨_, (decide ((l0.length : Int) ≥ 12)), zF, H', ⟨by first | omega | exact Nat.le_refl _⟩, ⟨zB HB⟩⟩
   ·replace c7 := Bool.eq_false_iff.mpr c7
    subst c7
    have H1 : (spec_AssignTag.j0 k l0 a1 true) = some (r1, r2, r3) := by rw [if_neg (show ¬ (false = true) by decide)] at H; exact H
    clear H
    have H := H1
    clear H1
    have H' := Aside0.mk H
    clear H
    go_wp2_with (first | ((with_reducible refine gate_callee (f := 23) rfl ?_); refine goesL_ (some 11) rfl rfl Try.func23 (by kernel_rfl) rfl #[.slice A0 l0.length c0] rfl zG ?_; (with_reducible refine (spec_IsRegistry.calls k _ _ l0 true _ ?side1 ?side2 A4.out).mono ?_); (case side1 => exact cS HR0 HB); (case side2 => exact HC0.out); rintro e w9 ⟨rfl, hb⟩; refine ⟨_, rfl, ?_⟩; replace HB := bS HB hb; (try clear hb)) | (go_at_call 24; (with_reducible refine (spec_l1In.calls a1 0 9 false _ A6.out).mono ?_); rintro e w' ⟨rfl, ⟨nd, rfl⟩⟩))
    go_meet
    case rel => exact ⟨_, (true), zF, H', ⟨by first | omega | exact Nat.le_refl _⟩, ⟨zB HB⟩⟩
  ·replace c5 := Bool.eq_false_iff.mpr c5
   subst c5
   have H1 : (spec_AssignTag.j0 k l0 a1 true) = some (r1, r2, r3) := by rw [if_neg (show ¬ (false = true) by decide)] at H; exact H
   clear H
   have H := H1
   clear H1
   have H' := Aside0.mk H
   clear H
   go_wp2_with (first | ((with_reducible refine gate_callee (f := 23) rfl ?_); refine goesL_ (some 11) rfl rfl Try.func23 (by kernel_rfl) rfl #[.slice A0 l0.length c0] rfl zG ?_; (with_reducible refine (spec_IsRegistry.calls k _ _ l0 false _ ?side1 ?side2 A4.out).mono ?_); (case side1 => exact cS HR0 HB); (case side2 => exact HC0.out); rintro e w10 ⟨rfl, hb⟩; refine ⟨_, rfl, ?_⟩; replace HB := bS HB hb; (try clear hb)))
   go_meet
   case rel => exact ⟨_, (true), zF, H', ⟨by first | omega | exact Nat.le_refl _⟩, ⟨zB HB⟩⟩
 case rest =>
  clear HC3
  try clear c2
  try clear p2
  try clear c5
  try clear c6
  try clear c7
  obtain ⟨kq, x22_2, rfl, HA, HJ2, HB⟩ := hcut
  cases kq with
  | zero => exact absurd HA.out (by simp [spec_AssignTag.j0])
  | succ kj2 =>
   have H := HA.out
   clear HA
   simp only [spec_AssignTag.j0] at H
   by_cases c11 : x22_2 = true
   ·subst c11
    have H1 : ((some (([] : List (S43)) : List (S43))).bind fun y114 => (if y114.length + l0.length < 5864062014805 then (some ((y114 ++ l0), (-1), false)) else (none))) = some (r1, r2, r3) := by rw [if_pos rfl] at H; exact H
    clear H
    have H := H1
    clear H1
    obtain ⟨y114, hy114⟩ : ∃ y_ : List (S43), y_ = (([] : List (S43))) := ⟨_, rfl⟩
    replace H : (if y114.length + l0.length < 5864062014805 then (some ((y114 ++ l0), (-1), false)) else (none)) = some (r1, r2, r3) := by first | (rw [hy114]; with_reducible exact H) | (have H2_ := (Option.bind_some _ _).symm.trans H; rw [hy114]; with_reducible exact H2_) | (have H2_ := (Option.bind_some _ _).symm.trans H; with_reducible exact H2_) | with_reducible exact H | (rw [hy114]; exact H) | exact H
    have Ny114 := Aside0.mk hy114
    clear hy114
    obtain ⟨c12, H⟩ := ifS H
    have LMc12 := Aside0.mk c12
    clear c12
    obtain ⟨y117, hy117⟩ : ∃ y_ : List (S43), y_ = (y114 ++ l0) := ⟨_, rfl⟩
    replace H : (some (y117, (-1), false)) = some (r1, r2, r3) := by first | (rw [hy117]; with_reducible exact H) | (have H2_ := (Option.bind_some _ _).symm.trans H; rw [hy117]; with_reducible exact H2_) | (have H2_ := (Option.bind_some _ _).symm.trans H; with_reducible exact H2_) | with_reducible exact H | (rw [hy117]; exact H) | exact H
    have Ny117 := Aside0.mk hy117
    clear hy117
    simp only [Option.some.injEq, Prod.mk.injEq] at H
    obtain ⟨rfl, rfl, rfl⟩ := H
    go_wp2_with (first | ((with_reducible refine gate_dst (N := 23) rfl ?_); (try (refine gate_guard (by rfl) ?_; dsimp only)); refine Kd.R_lit k43 _ 43 ?hg (N := 23) ?hd (xs := ([] : List (S43))) (inner := []) (ok := fun _ => True) (okp := fun _ => True) ?hr ?hp (fun _ hk => hk) trivial (Below.refl _ _) (Nat.le_refl _) (by simp) ?_; (case hd => rfl); (case hg => rfl); (case hr => first | (go_simp; done) | (go_simp; rfl)); (case hp => exact (Reps.none _ _)); intro v115 w13 ho14 hb hg_ hnew_; clear hg_ hnew_; (first | rw [← Ny114.out] at ho14 | (simp only [Int.reduceToNat] at ho14; rw [← Ny114.out] at ho14)); have HO116 := Aside0.mk (Kd.R_lower ho14 (below_size (zB HB))); replace HB := bS HB hb; clear hb ho14) | ((with_reducible refine gate_builtin (b := .append) (xs := #[.tmp 23, .tmp 24]) rfl ?_); (try (refine gate_guard (by rfl) ?_; dsimp only)); at_builtin; refine Kd.R_append_rows k43 (w0 := w) w.heap.size rfl (.tmp 23) (.tmp 24) 24 43 (.agg #[(.int .i64 0), (.int .i64 0), (.bool false)]) 24 rfl Try.underlying24 info43 rfl (by decide) (by omega) v115 y114 l0 _ _ _ (fun _ => True) (fun _ => False) rfl rfl ?aO ?aR (fun _ _ h => h) (fun _ h => h.elim) ?aF ?aB ?aS ?aL ?_; (case aR => repeat (first | exact (Kd.C_below HR0.out HB.out) | (with_reducible refine Kd.C_alloc ?_ _) | (with_reducible refine Kd.C_drewN ?_ _) | (with_reducible refine Kd.C_drew ?_))); (case aB => exact (zB HB)); (case aF => exact (fun _ _ => trivial)); (case aO => exact (zR HO116)); (case aS => exact (below_size (zB HB))); (case aL => have := LMc12.out; omega); intro v118 w15 ho hb hg hat; rw [← Ny117.out] at ho; replace HB := Aside0.mk (hb); have HO119 := Aside0.mk (ho); clear HO116; clear ho hb hg hat))
    go_ret3
    exact ⟨_, zE, by (with_reducible repeat (first | apply Kd.R_alloc | apply Kd.R_drewN | apply Kd.R_drew)); exact HO119.out, zB HB⟩
   ·replace c11 := Bool.eq_false_iff.mpr c11
    subst c11
    have H1 : (spec_AssignTag.l0 kj2 l0 a1 0) = some (r1, r2, r3) := by rw [if_neg (show ¬ (false = true) by decide)] at H; exact H
    clear H
    have H := H1
    clear H1
    have H' := Aside0.mk H
    clear H
    go_wp2
    go_loopg [7] kj2 (fun kq v7 w' => ∃ (x7_2 : Int), v7 = .int .i64 x7_2 ∧ Aside0 (spec_AssignTag.l0 kq l0 a1 x7_2 = some (r1, r2, r3)) ∧ Aside0 (kq ≤ kj2) ∧ Aside0 (Below w.heap.size w w'))
    case atStart => exact ⟨(0), zF, H', ⟨Nat.le_refl _⟩, ⟨zB HB⟩⟩
    case round =>
     clear H'
     try clear c1
     try clear c2
     try clear p2
     try clear c5
     try clear c6
     try clear c7
     try clear c11
     try clear c12
     try clear p2
     obtain ⟨x7_2, rfl, HA, HK2, HB⟩ := hrel
     cases gk with
     | zero => exact absurd HA.out (by simp [spec_AssignTag.l0])
     | succ k2 =>
      have H := HA.out
      clear HA
      simp only [spec_AssignTag.l0] at H
      obtain ⟨t120, A16, H⟩ := bindS H
      by_cases c17 : t120 = true
      ·subst c17
       have H1 : (spec_AssignTag.l0 k2 l0 a1 (wrap64 (x7_2 + 1))) = some (r1, r2, r3) := by rw [if_pos rfl] at H; exact H
       clear H
       have H := H1
       clear H1
       have H' := Aside0.mk H
       clear H
       go_wp2_with (first | ((with_reducible refine gate_callee (f := 25) rfl ?_); refine goesL_ (some 27) rfl rfl Try.func25 (by kernel_rfl) rfl #[.int .i64 x7_2] rfl zG ?_; (with_reducible refine (spec_IsReserved.calls x7_2 true _ A16.out).mono ?_); rintro e w' ⟨rfl, ⟨nd, rfl⟩⟩; refine ⟨_, rfl, ?_⟩))
       go_roundg k2
       case measure => have := HJ2.out; have := HK2.out; omega
       case rel => exact ⟨(wrap64 (x7_2 + 1)), zF, H', ⟨by have := HJ2.out; have := HK2.out; omega⟩, ⟨zB HB⟩⟩
      ·replace c17 := Bool.eq_false_iff.mpr c17
       subst c17
       have H1 : ((spec_OwnerOf.f k2 l0 x7_2).bind fun t121 => (if t121 ≥ 0 then (spec_AssignTag.l0 k2 l0 a1 (wrap64 (x7_2 + 1))) else (spec_AssignTag.l1 k2 l0 a1 x7_2 0))) = some (r1, r2, r3) := by rw [if_neg (show ¬ (false = true) by decide)] at H; exact H
       clear H
       have H := H1
       clear H1
       obtain ⟨t121, A18, H⟩ := bindS H
       by_cases c19 : t121 ≥ 0
       ·rw [if_pos c19] at H
        have c19b0 : decide (0 ≤ t121) = true := decide_eq_true c19
        clear c19
        have H' := Aside0.mk H
        clear H
        go_wp2_with (first | ((with_reducible refine gate_callee (f := 25) rfl ?_); refine goesL_ (some 27) rfl rfl Try.func25 (by kernel_rfl) rfl #[.int .i64 x7_2] rfl zG ?_; (with_reducible refine (spec_IsReserved.calls x7_2 false _ A16.out).mono ?_); rintro e w' ⟨rfl, ⟨nd, rfl⟩⟩; refine ⟨_, rfl, ?_⟩) | (go_at_call 26; (with_reducible refine (spec_OwnerOf.calls k2 _ _ l0 x7_2 t121 _ ?side1 ?side2 A18.out).mono ?_); (case side1 => repeat (first | exact (Kd.C_below HR0.out (zB HB)) | (with_reducible refine Kd.C_alloc ?_ _) | (with_reducible refine Kd.C_drewN ?_ _) | (with_reducible refine Kd.C_drew ?_))); (case side2 => exact HC0.out); rintro e w' ⟨rfl, ⟨nd, rfl⟩⟩))
        go_roundg k2
        case measure => have := HJ2.out; have := HK2.out; omega
        case rel => exact ⟨(wrap64 (x7_2 + 1)), zF, H', ⟨by have := HJ2.out; have := HK2.out; omega⟩, ⟨zB HB⟩⟩
       ·rw [if_neg c19] at H
        have c19b0 : decide (0 ≤ t121) = false := decide_eq_false c19
        clear c19
        have H' := Aside0.mk H
        clear H
        go_wp2_with (first | ((with_reducible refine gate_callee (f := 25) rfl ?_); refine goesL_ (some 27) rfl rfl Try.func25 (by kernel_rfl) rfl #[.int .i64 x7_2] rfl zG ?_; (with_reducible refine (spec_IsReserved.calls x7_2 false _ A16.out).mono ?_); rintro e w' ⟨rfl, ⟨nd, rfl⟩⟩; refine ⟨_, rfl, ?_⟩) | (go_at_call 26; (with_reducible refine (spec_OwnerOf.calls k2 _ _ l0 x7_2 t121 _ ?side1 ?side2 A18.out).mono ?_); (case side1 => repeat (first | exact (Kd.C_below HR0.out (zB HB)) | (with_reducible refine Kd.C_alloc ?_ _) | (with_reducible refine Kd.C_drewN ?_ _) | (with_reducible refine Kd.C_drew ?_))); (case side2 => exact HC0.out); rintro e w' ⟨rfl, ⟨nd, rfl⟩⟩))
        go_loopg [8] k2 (fun kq v8 w' => ∃ (x8_3 : Int), v8 = .int .i64 x8_3 ∧ Aside0 (spec_AssignTag.l1 kq l0 a1 x7_2 x8_3 = some (r1, r2, r3)) ∧ Aside0 (kq ≤ k2) ∧ Aside0 (Below w.heap.size w w'))
        case atStart => exact ⟨(0), zF, H', ⟨Nat.le_refl _⟩, ⟨zB HB⟩⟩
        case round =>
         clear H'
         try clear c1
         try clear c2
         try clear p2
         try clear c5
         try clear c6
         try clear p6
         try clear c7
         try clear c11
         try clear c12
         try clear c17
         try clear c19
         try clear c19b0
         try clear p2
         obtain ⟨x8_3, rfl, HA, HK3, HB⟩ := hrel
         cases gk with
         | zero => exact absurd HA.out (by simp [spec_AssignTag.l1])
         | succ k3 =>
          have H := HA.out
          clear HA
          simp only [spec_AssignTag.l1] at H
          by_cases c20 : x8_3 < (l0.length : Int)
          ·rw [if_pos c20] at H
           have c20b0 : decide (x8_3 < (l0.length : Int)) = true := decide_eq_true c20
           clear c20
           obtain ⟨c21, H⟩ := ifS H
           have c21b0 : decide (0 ≤ x8_3) = true := decide_eq_true c21
           clear c21
           by_cases c22 : ((rd_T43 l0 x8_3).f0) < x7_2
           ·rw [if_pos c22] at H
            have c22b0 : decide (((rd_T43 l0 x8_3).f0) < x7_2) = true := decide_eq_true c22
            clear c22
            have H' := Aside0.mk H
            clear H
            have p122 : 0 ≤ (x8_3 : Int) := zD
            have q122 : x8_3 < (l0.length : Int) := zD
            obtain ⟨ad122, e122, hx122_0, hx122_1, hx122_2⟩ := at_T43 HR0.out x8_3 p122 q122
            cases e122
            replace hx122_0 := hL HB hx122_0
            replace hx122_1 := hL HB hx122_1
            replace hx122_2 := hL HB hx122_2
            replace p122 := eq_true p122
            replace q122 := eq_true q122
            go_wp2
            go_roundg k3
            case measure => have := HJ2.out; have := HK2.out; have := HK3.out; omega
            case rel => exact ⟨(wrap64 (x8_3 + 1)), zF, H', ⟨by have := HJ2.out; have := HK2.out; have := HK3.out; omega⟩, ⟨zB HB⟩⟩
           ·rw [if_neg c22] at H
            have c22b0 : decide (((rd_T43 l0 x8_3).f0) < x7_2) = false := decide_eq_false c22
            clear c22
            obtain ⟨y123, hy123⟩ : ∃ y_ : List (S43), y_ = (([] : List (S43))) := ⟨_, rfl⟩
            replace H : (if x8_3 ≤ (l0.length : Int) then ((some (l0.take (x8_3 : Int).toNat : List (S43))).bind fun y126 => (if y123.length + y126.length < 5864062014805 then ((some (y123 ++ y126 : List (S43))).bind fun y130 => (if y130.length < 5864062014805 then ((some (y130 ++ [(⟨x7_2, a1, false⟩ : S43)] : List (S43))).bind fun y133 => ((some (l0.drop (x8_3 : Int).toNat : List (S43))).bind fun y136 => (if y133.length + y136.length < 5864062014805 then (some ((y133 ++ y136), x7_2, true)) else (none)))) else (none))) else (none))) else (none)) = some (r1, r2, r3) := by first | (rw [hy123]; with_reducible exact H) | (have H2_ := (Option.bind_some _ _).symm.trans H; rw [hy123]; with_reducible exact H2_) | (have H2_ := (Option.bind_some _ _).symm.trans H; with_reducible exact H2_) | with_reducible exact H | (rw [hy123]; exact H) | exact H
            have Ny123 := Aside0.mk hy123
            clear hy123
            have c23b0 := eq_true (zD : 0 ≤ x8_3)
            obtain ⟨c24, H⟩ := ifS H
            have c24b0 := eq_true c24
            have c24b1 : decide (x8_3 ≤ (l0.length : Int)) = true := decide_eq_true c24
            clear c24
            obtain ⟨y126, hy126⟩ : ∃ y_ : List (S43), y_ = (l0.take (x8_3 : Int).toNat) := ⟨_, rfl⟩
            replace H : (if y123.length + y126.length < 5864062014805 then ((some (y123 ++ y126 : List (S43))).bind fun y130 => (if y130.length < 5864062014805 then ((some (y130 ++ [(⟨x7_2, a1, false⟩ : S43)] : List (S43))).bind fun y133 => ((some (l0.drop (x8_3 : Int).toNat : List (S43))).bind fun y136 => (if y133.length + y136.length < 5864062014805 then (some ((y133 ++ y136), x7_2, true)) else (none)))) else (none))) else (none)) = some (r1, r2, r3) := by first | (rw [hy126]; with_reducible exact H) | (have H2_ := (Option.bind_some _ _).symm.trans H; rw [hy126]; with_reducible exact H2_) | (have H2_ := (Option.bind_some _ _).symm.trans H; with_reducible exact H2_) | with_reducible exact H | (rw [hy126]; exact H) | exact H
            have Ny126 := Aside0.mk hy126
            clear hy126
            obtain ⟨c25, H⟩ := ifS H
            have LMc25 := Aside0.mk c25
            clear c25
            obtain ⟨y130, hy130⟩ : ∃ y_ : List (S43), y_ = (y123 ++ y126) := ⟨_, rfl⟩
            replace H : (if y130.length < 5864062014805 then ((some (y130 ++ [(⟨x7_2, a1, false⟩ : S43)] : List (S43))).bind fun y133 => ((some (l0.drop (x8_3 : Int).toNat : List (S43))).bind fun y136 => (if y133.length + y136.length < 5864062014805 then (some ((y133 ++ y136), x7_2, true)) else (none)))) else (none)) = some (r1, r2, r3) := by first | (rw [hy130]; with_reducible exact H) | (have H2_ := (Option.bind_some _ _).symm.trans H; rw [hy130]; with_reducible exact H2_) | (have H2_ := (Option.bind_some _ _).symm.trans H; with_reducible exact H2_) | with_reducible exact H | (rw [hy130]; exact H) | exact H
            have Ny130 := Aside0.mk hy130
            clear hy130
            obtain ⟨c26, H⟩ := ifS H
            have LMc26 := Aside0.mk c26
            clear c26
            obtain ⟨y133, hy133⟩ : ∃ y_ : List (S43), y_ = (y130 ++ [(⟨x7_2, a1, false⟩ : S43)]) := ⟨_, rfl⟩
            replace H : ((some (l0.drop (x8_3 : Int).toNat : List (S43))).bind fun y136 => (if y133.length + y136.length < 5864062014805 then (some ((y133 ++ y136), x7_2, true)) else (none))) = some (r1, r2, r3) := by first | (rw [hy133]; with_reducible exact H) | (have H2_ := (Option.bind_some _ _).symm.trans H; rw [hy133]; with_reducible exact H2_) | (have H2_ := (Option.bind_some _ _).symm.trans H; with_reducible exact H2_) | with_reducible exact H | (rw [hy133]; exact H) | exact H
            have Ny133 := Aside0.mk hy133
            clear hy133
            have c27b0 := eq_true (zD : 0 ≤ x8_3)
            have c28b0 := eq_true (zD : x8_3 ≤ (l0.length : Int))
            obtain ⟨y136, hy136⟩ : ∃ y_ : List (S43), y_ = (l0.drop (x8_3 : Int).toNat) := ⟨_, rfl⟩
            replace H : (if y133.length + y136.length < 5864062014805 then (some ((y133 ++ y136), x7_2, true)) else (none)) = some (r1, r2, r3) := by first | (rw [hy136]; with_reducible exact H) | (have H2_ := (Option.bind_some _ _).symm.trans H; rw [hy136]; with_reducible exact H2_) | (have H2_ := (Option.bind_some _ _).symm.trans H; with_reducible exact H2_) | with_reducible exact H | (rw [hy136]; exact H) | exact H
            have Ny136 := Aside0.mk hy136
            clear hy136
            obtain ⟨c29, H⟩ := ifS H
            have LMc29 := Aside0.mk c29
            clear c29
            obtain ⟨y140, hy140⟩ : ∃ y_ : List (S43), y_ = (y133 ++ y136) := ⟨_, rfl⟩
            replace H : (some (y140, x7_2, true)) = some (r1, r2, r3) := by first | (rw [hy140]; with_reducible exact H) | (have H2_ := (Option.bind_some _ _).symm.trans H; rw [hy140]; with_reducible exact H2_) | (have H2_ := (Option.bind_some _ _).symm.trans H; with_reducible exact H2_) | with_reducible exact H | (rw [hy140]; exact H) | exact H
            have Ny140 := Aside0.mk hy140
            clear hy140
            simp only [Option.some.injEq, Prod.mk.injEq] at H
            obtain ⟨rfl, rfl, rfl⟩ := H
            have p122 : 0 ≤ (x8_3 : Int) := zD
            have q122 : x8_3 < (l0.length : Int) := zD
            obtain ⟨ad122, e122, hx122_0, hx122_1, hx122_2⟩ := at_T43 HR0.out x8_3 p122 q122
            cases e122
            replace hx122_0 := hL HB hx122_0
            replace hx122_1 := hL HB hx122_1
            replace hx122_2 := hL HB hx122_2
            replace p122 := eq_true p122
            replace q122 := eq_true q122
            go_wp2_with (first | ((with_reducible refine gate_dst (N := 51) rfl ?_); (try (refine gate_guard (by rfl) ?_; dsimp only)); refine Kd.R_lit k43 _ 43 ?hg (N := 51) ?hd (xs := ([] : List (S43))) (inner := []) (ok := fun _ => True) (okp := fun _ => True) ?hr ?hp (fun _ hk => hk) trivial (Below.refl _ _) (Nat.le_refl _) (by simp) ?_; (case hd => rfl); (case hg => rfl); (case hr => first | (go_simp; done) | (go_simp; rfl)); (case hp => exact (Reps.none _ _)); intro v124 w30 ho31 hb hg_ hnew_; clear hg_ hnew_; (first | rw [← Ny123.out] at ho31 | (simp only [Int.reduceToNat] at ho31; rw [← Ny123.out] at ho31)); have HO125 := Aside0.mk (Kd.R_lower ho31 (below_size (zB HB))); replace HB := bS HB hb; clear hb ho31; have q32 : (x8_3 : Int) ≤ ((l0.length : Int) : Int) := zD; obtain ⟨i032, hi032, _, hsz32, _⟩ := info_parts info43; have hroom32 : l0.length ≤ c0 := HC0.out; have hC32 : Kd.C k43 _ (some ad122) l0.length l0 := HR0.out; have hcut32 := cut_to (P := Try.prog) 24 43 .i64 Try.underlying24 hi032 (some ad122) l0.length c0 x8_3 (zD) q32 hroom32; have hr32 := Kd.C_take (m := (x8_3 : Int).toNat) hC32 (by omega); have hy32 : y126.length = (x8_3 : Int).toNat := (by rw [Ny126.out, List.length_take]; omega); rw [← Ny126.out] at hr32; rw [← hy32] at hcut32; have HR129 := Aside0.mk hr32; have HC129 := Aside0.mk (show y126.length ≤ c0 from by omega); clear hr32 hC32 hroom32 hi032 hsz32; have KY32 := Aside0.mk hy32; clear hy32; replace q32 := eq_true q32) | ((with_reducible refine gate_builtin (b := .append) (xs := #[.tmp 51, .tmp 54]) rfl ?_); (try (refine gate_guard (by rfl) ?_; dsimp only)); at_builtin; refine Kd.R_append_rows k43 (w0 := w) w.heap.size rfl (.tmp 51) (.tmp 54) 24 43 (.agg #[(.int .i64 0), (.int .i64 0), (.bool false)]) 24 rfl Try.underlying24 info43 rfl (by decide) (by omega) v124 y123 y126 _ _ _ (fun _ => True) (fun _ => False) rfl rfl ?aO ?aR (fun _ _ h => h) (fun _ h => h.elim) ?aF ?aB ?aS ?aL ?_; (case aR => repeat (first | exact (Kd.C_below HR129.out HB.out) | (with_reducible refine Kd.C_alloc ?_ _) | (with_reducible refine Kd.C_drewN ?_ _) | (with_reducible refine Kd.C_drew ?_))); (case aB => exact (zB HB)); (case aF => exact (fun _ _ => trivial)); (case aO => exact (zR HO125)); (case aS => exact (below_size (zB HB))); (case aL => have := LMc25.out; omega); intro v131 w33 ho hb hg hat; rw [← Ny130.out] at ho; replace HB := Aside0.mk (hb); have HO132 := Aside0.mk (ho); clear HO125; clear ho hb hg hat) | ((with_reducible refine gate_builtin (b := .append) (xs := #[.tmp 55, .tmp 59]) rfl ?_); (try (refine gate_guard (by rfl) ?_; dsimp only)); at_builtin; refine Kd.R_append k43 (w0 := w) w.heap.size rfl (.tmp 55) (.tmp 59) 24 43 (.agg #[(.int .i64 0), (.int .i64 0), (.bool false)]) 24 rfl Try.underlying24 info43 rfl (by decide) (by omega) v131 y130 (⟨x7_2, a1, false⟩ : S43) [.int .i64 x7_2, .int .i64 a1, .bool false] (fun _ => True) (fun _ => False) rfl rfl ?aP (fun _ hk => hk.elim) ?aF ?aO ?aB ?aS ?aL ?_; (case aP => exact k43_mkM _ _ _ (⟨x7_2, a1, false⟩ : S43)); (case aB => exact (zB HB)); (case aF => exact (fun _ _ => trivial)); (case aO => exact (zR HO132)); (case aS => exact (below_size (zB HB))); (case aL => have := LMc26.out; omega); intro v134 w34 ho hb hg hat; rw [← Ny133.out] at ho; replace HB := Aside0.mk (hb); have HO135 := Aside0.mk (ho); clear HO132; clear ho hb hg hat; have q35 : (x8_3 : Int) ≤ ((l0.length : Int) : Int) := zD; obtain ⟨i035, hi035, _, hsz35, _⟩ := info_parts info43; have hroom35 : l0.length ≤ c0 := HC0.out; have hC35 : Kd.C k43 _ (some ad122) l0.length l0 := HR0.out; have q035 : (0 : Int) ≤ (x8_3 : Int) := zD; have hcut35 := cut_from (P := Try.prog) 24 43 .i64 Try.underlying24 hi035 3 hsz35 (some ad122) l0.length c0 x8_3 q035 q35; have hr35 := Kd.C_drop (m := (x8_3 : Int).toNat) (c := c0) hC35 (by omega) hroom35; obtain ⟨A35, hA35⟩ : ∃ A1, A1 = (if c0 = (x8_3 : Int).toNat then (some ad122) else ((some ad122) : Option Addr).map (·.add ((x8_3 : Int).toNat * 3))) := ⟨_, rfl⟩; obtain ⟨c35, hc35⟩ : ∃ c1, c1 = c0 - (x8_3 : Int).toNat := ⟨_, rfl⟩; have hy35 : y136.length = l0.length - (x8_3 : Int).toNat := (by rw [Ny136.out, List.length_drop] <;> omega); rw [show (l0).drop (x8_3 : Int).toNat = y136 from Ny136.out.symm] at hr35; replace hr35 : Kd.C k43 _ A35 y136.length y136 := (by rw [hA35]; exact hr35); rw [← hy35, ← hA35, ← hc35] at hcut35; have HR139 := Aside0.mk hr35; have HC139 := Aside0.mk (show y136.length ≤ c35 from by rw [hy35, hc35]; exact Nat.sub_le_sub_right hroom35 _); clear hr35 hC35 hroom35 hi035 hsz35 hc35; have KY35 := Aside0.mk hy35; have KA35 := Aside0.mk hA35; clear hy35 hA35; replace q35 := eq_true q35) | ((with_reducible refine gate_builtin (b := .append) (xs := #[.tmp 61, .tmp 64]) rfl ?_); (try (refine gate_guard (by rfl) ?_; dsimp only)); at_builtin; refine Kd.R_append_rows k43 (w0 := w) w.heap.size rfl (.tmp 61) (.tmp 64) 24 43 (.agg #[(.int .i64 0), (.int .i64 0), (.bool false)]) 24 rfl Try.underlying24 info43 rfl (by decide) (by omega) v134 y133 y136 _ _ _ (fun _ => True) (fun _ => False) rfl rfl ?aO ?aR (fun _ _ h => h) (fun _ h => h.elim) ?aF ?aB ?aS ?aL ?_; (case aR => repeat (first | exact (Kd.C_below HR139.out HB.out) | (with_reducible refine Kd.C_alloc ?_ _) | (with_reducible refine Kd.C_drewN ?_ _) | (with_reducible refine Kd.C_drew ?_))); (case aB => exact (zB HB)); (case aF => exact (fun _ _ => trivial)); (case aO => exact (zR HO135)); (case aS => exact (below_size (zB HB))); (case aL => have := LMc29.out; omega); intro v141 w36 ho hb hg hat; rw [← Ny140.out] at ho; replace HB := Aside0.mk (hb); have HO142 := Aside0.mk (ho); clear HO135; clear ho hb hg hat))
            go_ret3
            exact ⟨_, zE, by (with_reducible repeat (first | apply Kd.R_alloc | apply Kd.R_drewN | apply Kd.R_drew)); exact HO142.out, zB HB⟩
          ·rw [if_neg c20] at H
           have c20b0 : decide (x8_3 < (l0.length : Int)) = false := decide_eq_false c20
           clear c20
           obtain ⟨y143, hy143⟩ : ∃ y_ : List (S43), y_ = (([] : List (S43))) := ⟨_, rfl⟩
           replace H : (if 0 ≤ x8_3 then (if x8_3 ≤ (l0.length : Int) then ((some (l0.take (x8_3 : Int).toNat : List (S43))).bind fun y146 => (if y143.length + y146.length < 5864062014805 then ((some (y143 ++ y146 : List (S43))).bind fun y150 => (if y150.length < 5864062014805 then ((some (y150 ++ [(⟨x7_2, a1, false⟩ : S43)] : List (S43))).bind fun y153 => ((some (l0.drop (x8_3 : Int).toNat : List (S43))).bind fun y156 => (if y153.length + y156.length < 5864062014805 then (some ((y153 ++ y156), x7_2, true)) else (none)))) else (none))) else (none))) else (none)) else (none)) = some (r1, r2, r3) := by first | (rw [hy143]; with_reducible exact H) | (have H2_ := (Option.bind_some _ _).symm.trans H; rw [hy143]; with_reducible exact H2_) | (have H2_ := (Option.bind_some _ _).symm.trans H; with_reducible exact H2_) | with_reducible exact H | (rw [hy143]; exact H) | exact H
           have Ny143 := Aside0.mk hy143
           clear hy143
           by_cases c37 : 0 ≤ x8_3
           ·rw [if_pos c37] at H
            have c37b0 := eq_true c37
            have c37b1 : decide (0 ≤ x8_3) = true := decide_eq_true c37
            clear c37
            obtain ⟨c38, H⟩ := ifS H
            have c38b0 := eq_true c38
            have c38b1 : decide (x8_3 ≤ (l0.length : Int)) = true := decide_eq_true c38
            clear c38
            obtain ⟨y146, hy146⟩ : ∃ y_ : List (S43), y_ = (l0.take (x8_3 : Int).toNat) := ⟨_, rfl⟩
            replace H : (if y143.length + y146.length < 5864062014805 then ((some (y143 ++ y146 : List (S43))).bind fun y150 => (if y150.length < 5864062014805 then ((some (y150 ++ [(⟨x7_2, a1, false⟩ : S43)] : List (S43))).bind fun y153 => ((some (l0.drop (x8_3 : Int).toNat : List (S43))).bind fun y156 => (if y153.length + y156.length < 5864062014805 then (some ((y153 ++ y156), x7_2, true)) else (none)))) else (none))) else (none)) = some (r1, r2, r3) := by first | (rw [hy146]; with_reducible exact H) | (have H2_ := (Option.bind_some _ _).symm.trans H; rw [hy146]; with_reducible exact H2_) | (have H2_ := (Option.bind_some _ _).symm.trans H; with_reducible exact H2_) | with_reducible exact H | (rw [hy146]; exact H) | exact H
            have Ny146 := Aside0.mk hy146
            clear hy146
            obtain ⟨c39, H⟩ := ifS H
            have LMc39 := Aside0.mk c39
            clear c39
            obtain ⟨y150, hy150⟩ : ∃ y_ : List (S43), y_ = (y143 ++ y146) := ⟨_, rfl⟩
            replace H : (if y150.length < 5864062014805 then ((some (y150 ++ [(⟨x7_2, a1, false⟩ : S43)] : List (S43))).bind fun y153 => ((some (l0.drop (x8_3 : Int).toNat : List (S43))).bind fun y156 => (if y153.length + y156.length < 5864062014805 then (some ((y153 ++ y156), x7_2, true)) else (none)))) else (none)) = some (r1, r2, r3) := by first | (rw [hy150]; with_reducible exact H) | (have H2_ := (Option.bind_some _ _).symm.trans H; rw [hy150]; with_reducible exact H2_) | (have H2_ := (Option.bind_some _ _).symm.trans H; with_reducible exact H2_) | with_reducible exact H | (rw [hy150]; exact H) | exact H
            have Ny150 := Aside0.mk hy150
            clear hy150
            obtain ⟨c40, H⟩ := ifS H
            have LMc40 := Aside0.mk c40
            clear c40
            obtain ⟨y153, hy153⟩ : ∃ y_ : List (S43), y_ = (y150 ++ [(⟨x7_2, a1, false⟩ : S43)]) := ⟨_, rfl⟩
            replace H : ((some (l0.drop (x8_3 : Int).toNat : List (S43))).bind fun y156 => (if y153.length + y156.length < 5864062014805 then (some ((y153 ++ y156), x7_2, true)) else (none))) = some (r1, r2, r3) := by first | (rw [hy153]; with_reducible exact H) | (have H2_ := (Option.bind_some _ _).symm.trans H; rw [hy153]; with_reducible exact H2_) | (have H2_ := (Option.bind_some _ _).symm.trans H; with_reducible exact H2_) | with_reducible exact H | (rw [hy153]; exact H) | exact H
            have Ny153 := Aside0.mk hy153
            clear hy153
            have c41b0 := eq_true (zD : 0 ≤ x8_3)
            have c42b0 := eq_true (zD : x8_3 ≤ (l0.length : Int))
            obtain ⟨y156, hy156⟩ : ∃ y_ : List (S43), y_ = (l0.drop (x8_3 : Int).toNat) := ⟨_, rfl⟩
            replace H : (if y153.length + y156.length < 5864062014805 then (some ((y153 ++ y156), x7_2, true)) else (none)) = some (r1, r2, r3) := by first | (rw [hy156]; with_reducible exact H) | (have H2_ := (Option.bind_some _ _).symm.trans H; rw [hy156]; with_reducible exact H2_) | (have H2_ := (Option.bind_some _ _).symm.trans H; with_reducible exact H2_) | with_reducible exact H | (rw [hy156]; exact H) | exact H
            have Ny156 := Aside0.mk hy156
            clear hy156
            obtain ⟨c43, H⟩ := ifS H
            have LMc43 := Aside0.mk c43
            clear c43
            obtain ⟨y160, hy160⟩ : ∃ y_ : List (S43), y_ = (y153 ++ y156) := ⟨_, rfl⟩
            replace H : (some (y160, x7_2, true)) = some (r1, r2, r3) := by first | (rw [hy160]; with_reducible exact H) | (have H2_ := (Option.bind_some _ _).symm.trans H; rw [hy160]; with_reducible exact H2_) | (have H2_ := (Option.bind_some _ _).symm.trans H; with_reducible exact H2_) | with_reducible exact H | (rw [hy160]; exact H) | exact H
            have Ny160 := Aside0.mk hy160
            clear hy160
            simp only [Option.some.injEq, Prod.mk.injEq] at H
            obtain ⟨rfl, rfl, rfl⟩ := H
            go_wp2_with (first | ((with_reducible refine gate_dst (N := 51) rfl ?_); (try (refine gate_guard (by rfl) ?_; dsimp only)); refine Kd.R_lit k43 _ 43 ?hg (N := 51) ?hd (xs := ([] : List (S43))) (inner := []) (ok := fun _ => True) (okp := fun _ => True) ?hr ?hp (fun _ hk => hk) trivial (Below.refl _ _) (Nat.le_refl _) (by simp) ?_; (case hd => rfl); (case hg => rfl); (case hr => first | (go_simp; done) | (go_simp; rfl)); (case hp => exact (Reps.none _ _)); intro v144 w44 ho45 hb hg_ hnew_; clear hg_ hnew_; (first | rw [← Ny143.out] at ho45 | (simp only [Int.reduceToNat] at ho45; rw [← Ny143.out] at ho45)); have HO145 := Aside0.mk (Kd.R_lower ho45 (below_size (zB HB))); replace HB := bS HB hb; clear hb ho45; have q46 : (x8_3 : Int) ≤ ((l0.length : Int) : Int) := zD; obtain ⟨i046, hi046, _, hsz46, _⟩ := info_parts info43; have hroom46 : l0.length ≤ c0 := HC0.out; have hC46 : Kd.C k43 _ A0 l0.length l0 := HR0.out; have hcut46 := cut_to (P := Try.prog) 24 43 .i64 Try.underlying24 hi046 A0 l0.length c0 x8_3 (zD) q46 hroom46; have hr46 := Kd.C_take (m := (x8_3 : Int).toNat) hC46 (by omega); have hy46 : y146.length = (x8_3 : Int).toNat := (by rw [Ny146.out, List.length_take]; omega); rw [← Ny146.out] at hr46; rw [← hy46] at hcut46; have HR149 := Aside0.mk hr46; have HC149 := Aside0.mk (show y146.length ≤ c0 from by omega); clear hr46 hC46 hroom46 hi046 hsz46; have KY46 := Aside0.mk hy46; clear hy46; replace q46 := eq_true q46) | ((with_reducible refine gate_builtin (b := .append) (xs := #[.tmp 51, .tmp 54]) rfl ?_); (try (refine gate_guard (by rfl) ?_; dsimp only)); at_builtin; refine Kd.R_append_rows k43 (w0 := w) w.heap.size rfl (.tmp 51) (.tmp 54) 24 43 (.agg #[(.int .i64 0), (.int .i64 0), (.bool false)]) 24 rfl Try.underlying24 info43 rfl (by decide) (by omega) v144 y143 y146 _ _ _ (fun _ => True) (fun _ => False) rfl rfl ?aO ?aR (fun _ _ h => h) (fun _ h => h.elim) ?aF ?aB ?aS ?aL ?_; (case aR => repeat (first | exact (Kd.C_below HR149.out HB.out) | (with_reducible refine Kd.C_alloc ?_ _) | (with_reducible refine Kd.C_drewN ?_ _) | (with_reducible refine Kd.C_drew ?_))); (case aB => exact (zB HB)); (case aF => exact (fun _ _ => trivial)); (case aO => exact (zR HO145)); (case aS => exact (below_size (zB HB))); (case aL => have := LMc39.out; omega); intro v151 w47 ho hb hg hat; rw [← Ny150.out] at ho; replace HB := Aside0.mk (hb); have HO152 := Aside0.mk (ho); clear HO145; clear ho hb hg hat) | ((with_reducible refine gate_builtin (b := .append) (xs := #[.tmp 55, .tmp 59]) rfl ?_); (try (refine gate_guard (by rfl) ?_; dsimp only)); at_builtin; refine Kd.R_append k43 (w0 := w) w.heap.size rfl (.tmp 55) (.tmp 59) 24 43 (.agg #[(.int .i64 0), (.int .i64 0), (.bool false)]) 24 rfl Try.underlying24 info43 rfl (by decide) (by omega) v151 y150 (⟨x7_2, a1, false⟩ : S43) [.int .i64 x7_2, .int .i64 a1, .bool false] (fun _ => True) (fun _ => False) rfl rfl ?aP (fun _ hk => hk.elim) ?aF ?aO ?aB ?aS ?aL ?_; (case aP => exact k43_mkM _ _ _ (⟨x7_2, a1, false⟩ : S43)); (case aB => exact (zB HB)); (case aF => exact (fun _ _ => trivial)); (case aO => exact (zR HO152)); (case aS => exact (below_size (zB HB))); (case aL => have := LMc40.out; omega); intro v154 w48 ho hb hg hat; rw [← Ny153.out] at ho; replace HB := Aside0.mk (hb); have HO155 := Aside0.mk (ho); clear HO152; clear ho hb hg hat; have q49 : (x8_3 : Int) ≤ ((l0.length : Int) : Int) := zD; obtain ⟨i049, hi049, _, hsz49, _⟩ := info_parts info43; have hroom49 : l0.length ≤ c0 := HC0.out; have hC49 : Kd.C k43 _ A0 l0.length l0 := HR0.out; have q049 : (0 : Int) ≤ (x8_3 : Int) := zD; have hcut49 := cut_from (P := Try.prog) 24 43 .i64 Try.underlying24 hi049 3 hsz49 A0 l0.length c0 x8_3 q049 q49; have hr49 := Kd.C_drop (m := (x8_3 : Int).toNat) (c := c0) hC49 (by omega) hroom49; obtain ⟨A49, hA49⟩ : ∃ A1, A1 = (if c0 = (x8_3 : Int).toNat then A0 else (A0 : Option Addr).map (·.add ((x8_3 : Int).toNat * 3))) := ⟨_, rfl⟩; obtain ⟨c49, hc49⟩ : ∃ c1, c1 = c0 - (x8_3 : Int).toNat := ⟨_, rfl⟩; have hy49 : y156.length = l0.length - (x8_3 : Int).toNat := (by rw [Ny156.out, List.length_drop] <;> omega); rw [show (l0).drop (x8_3 : Int).toNat = y156 from Ny156.out.symm] at hr49; replace hr49 : Kd.C k43 _ A49 y156.length y156 := (by rw [hA49]; exact hr49); rw [← hy49, ← hA49, ← hc49] at hcut49; have HR159 := Aside0.mk hr49; have HC159 := Aside0.mk (show y156.length ≤ c49 from by rw [hy49, hc49]; exact Nat.sub_le_sub_right hroom49 _); clear hr49 hC49 hroom49 hi049 hsz49 hc49; have KY49 := Aside0.mk hy49; have KA49 := Aside0.mk hA49; clear hy49 hA49; replace q49 := eq_true q49) | ((with_reducible refine gate_builtin (b := .append) (xs := #[.tmp 61, .tmp 64]) rfl ?_); (try (refine gate_guard (by rfl) ?_; dsimp only)); at_builtin; refine Kd.R_append_rows k43 (w0 := w) w.heap.size rfl (.tmp 61) (.tmp 64) 24 43 (.agg #[(.int .i64 0), (.int .i64 0), (.bool false)]) 24 rfl Try.underlying24 info43 rfl (by decide) (by omega) v154 y153 y156 _ _ _ (fun _ => True) (fun _ => False) rfl rfl ?aO ?aR (fun _ _ h => h) (fun _ h => h.elim) ?aF ?aB ?aS ?aL ?_; (case aR => repeat (first | exact (Kd.C_below HR159.out HB.out) | (with_reducible refine Kd.C_alloc ?_ _) | (with_reducible refine Kd.C_drewN ?_ _) | (with_reducible refine Kd.C_drew ?_))); (case aB => exact (zB HB)); (case aF => exact (fun _ _ => trivial)); (case aO => exact (zR HO155)); (case aS => exact (below_size (zB HB))); (case aL => have := LMc43.out; omega); intro v161 w50 ho hb hg hat; rw [← Ny160.out] at ho; replace HB := Aside0.mk (hb); have HO162 := Aside0.mk (ho); clear HO155; clear ho hb hg hat))
            go_ret3
            exact ⟨_, zE, by (with_reducible repeat (first | apply Kd.R_alloc | apply Kd.R_drewN | apply Kd.R_drew)); exact HO162.out, zB HB⟩
           ·rw [if_neg c37] at H
            exact absurd H (by simp)

/-! ### laws_toEntry: function 27 -/
def laws_toEntry.f (a0_0 : Int) (a0_1 : Int) (a0_2 : Bool) : Option (Int × Int × Bool) := some (a0_0, a0_1, a0_2)
set_option maxHeartbeats 8000000 in
set_option maxRecDepth 100000 in
theorem laws_toEntry.calls (a0_0 : Int) (a0_1 : Int) (a0_2 : Bool) (r1 : Int) (r2 : Int) (r3 : Bool) (w : World) (h : laws_toEntry.f a0_0 a0_1 a0_2 = some (r1, r2, r3)) :
  Calls Try.prog 27 #[.agg #[.int .i64 a0_0, .int .i64 a0_1, .bool a0_2]] w fun e w' => e = .returned (.agg #[.int .i64 r1, .int .i64 r2, .bool r3]) ∧ Below w.heap.size w w' := by
 have hu49 := Try.underlying49
 have hu43 := Try.underlying43
 have HB := Aside0.mk (Below.refl w.heap.size w)
 have H : (some (a0_0, a0_1, a0_2)) = some (r1, r2, r3) := h
 clear h
 simp only [Option.some.injEq, Prod.mk.injEq] at H
 obtain ⟨rfl, rfl, rfl⟩ := H
 go_enter Try.func27, Try.ntmps27
 go_wp2_with (first | ((with_reducible refine gate_dst (N := 1) rfl ?_); refine box_event ?hg (N := 1) ?hd (cs := #[.int .i64 a0_0, .int .i64 a0_1, .bool a0_2]) (t := 49) ?hr ?_; (case hd => rfl); (case hg => rfl); (case hr => first | (go_simp; done) | (go_simp; rfl)); intro gb163 hg w2 hbox hb; have BK163 := Aside0.mk (hbox); have GW163 := gS HB hg; have GE163 := gS HB hg; replace HB := bS HB hb; clear hb hbox hg) | ((with_reducible refine gate_dst (N := 2) rfl ?_); refine box_event ?hg (N := 2) ?hd (cs := #[.int .i64 0, .int .i64 0, .bool false]) (t := 43) ?hr ?_; (case hd => rfl); (case hg => rfl); (case hr => first | (go_simp; done) | (go_simp; rfl)); intro gb164 hg w3 hbox hb; have BK164 := Aside0.mk (hbox); have GW164 := gS HB hg; have GE164 := gS HB hg; replace HB := bS HB hb; have NB163_164 := nL BK163 hg; have NB164_163 := nR BK163 hg; replace BK163 := kB BK163 hb; clear hb hbox hg) | ((with_reducible refine gate_dst (N := 3) rfl ?_); refine box_event ?hg (N := 3) ?hd (cs := #[.int .i64 0, .int .i64 0, .bool false]) (t := 43) ?hr ?_; (case hd => rfl); (case hg => rfl); (case hr => first | (go_simp; done) | (go_simp; rfl)); intro gb165 hg w4 hbox hb; have BK165 := Aside0.mk (hbox); have GW165 := gS HB hg; have GE165 := gS HB hg; replace HB := bS HB hb; have NB163_165 := nL BK163 hg; have NB165_163 := nR BK163 hg; replace BK163 := kB BK163 hb; have NB164_165 := nL BK164 hg; have NB165_164 := nR BK164 hg; replace BK164 := kB BK164 hb; clear hb hbox hg; have hnb5 := NB163_164.out; have hnc5 := NB164_163.out; have hnb6 := NB163_165.out; have hnc6 := NB165_163.out; have hcz7_0 := bc0 BK163; have hcz7_1 := bc1 BK163; have hcz7_2 := bc2 BK163; have hfz7_0 := bf BK163 0; have hfz7_1 := bf BK163 1; have hfz7_2 := bf BK163 2; have hnb8 := NB165_164.out; have hnc8 := NB164_165.out; have hcz9_0 := bc0 BK165; have hcz9_1 := bc1 BK165; have hcz9_2 := bc2 BK165; have hfz9_0 := bf BK165 0; have hfz9_1 := bf BK165 1; have hfz9_2 := bf BK165 2; have hcz10_0 := bc0 BK164; have hcz10_1 := bc1 BK164; have hcz10_2 := bc2 BK164; have hfz10_0 := bf BK164 0; have hfz10_1 := bf BK164 1; have hfz10_2 := bf BK164 2))
 refine bodyPost_ret (results_cell_row rfl _ _ gb164 43 #[.int .i64 a0_0, .int .i64 a0_1, .bool a0_2] (0, 0) _ rfl (by (with_reducible repeat (first | refine blk_drewN ?_ _ | refine blk_drew ?_ | refine blk_alloc ?_ _)); refine blk_put (cs := #[.int .i64 a0_0, .int .i64 a0_1, .bool false]) ?_ 2 _ rfl; (with_reducible repeat (first | refine blk_drewN ?_ _ | refine blk_drew ?_ | refine blk_alloc ?_ _)); refine blk_put (cs := #[.int .i64 a0_0, .int .i64 0, .bool false]) ?_ 1 _ rfl; (with_reducible repeat (first | refine blk_drewN ?_ _ | refine blk_drew ?_ | refine blk_alloc ?_ _)); refine blk_put (cs := #[.int .i64 0, .int .i64 0, .bool false]) ?_ 0 _ rfl; (with_reducible repeat (first | refine blk_drewN ?_ _ | refine blk_drew ?_ | refine blk_alloc ?_ _)); refine blk_far ?_ NB164_165.out _; (with_reducible repeat (first | refine blk_drewN ?_ _ | refine blk_drew ?_ | refine blk_alloc ?_ _)); refine blk_far ?_ NB164_165.out _; (with_reducible repeat (first | refine blk_drewN ?_ _ | refine blk_drew ?_ | refine blk_alloc ?_ _)); refine blk_far ?_ NB164_165.out _; (with_reducible repeat (first | refine blk_drewN ?_ _ | refine blk_drew ?_ | refine blk_alloc ?_ _)); exact BK164.out) Try.underlying43 rfl (by kernel_rfl)) rfl ?_
 exact ⟨zE, zB HB⟩

/-! ### laws_toEntryS: function 7 -/
def laws_toEntryS.l0 : Nat → List (S49) → List (S43) → Int → Option ((List (S43)))
 | 0, _, _, _ => none
 | k + 1, x0, x3, x4 => if x4 < (x0.length : Int) then (if 0 ≤ x4 then ((laws_toEntry.f ((rd_T49 x0 x4).f0) ((rd_T49 x0 x4).f1) ((rd_T49 x0 x4).f2)).bind fun bt170 => (if x4 < (x3.length : Int) then (laws_toEntryS.l0 k x0 (x3.set (x4 : Int).toNat (⟨bt170.1, bt170.2.1, bt170.2.2⟩ : S43)) (wrap64 (x4 + 1))) else (none))) else (none)) else (some x3)
def laws_toEntryS.f (k : Nat) (l0 : List (S49)) : Option ((List (S43))) := if 0 ≤ (l0.length : Int) then (if ((l0.length : Int) : Int).toNat ≤ 11728124029610 then (laws_toEntryS.l0 k l0 (List.replicate ((l0.length : Int) : Int).toNat z43) 0) else (none)) else (none)
theorem laws_toEntryS.mono_l : ∀ k, (∀ y0 y1 y2, LeO (laws_toEntryS.l0 k y0 y1 y2) (laws_toEntryS.l0 (k + 1) y0 y1 y2))
 | 0 => fun _ _ _ r h => by simp [laws_toEntryS.l0] at h
 | k + 1 => by
  have ih0 := laws_toEntryS.mono_l k
  ·intro y0 y1 y2
   unfold laws_toEntryS.l0
   repeat' first
   | (with_reducible exact ih0 _ _ _)
   | (with_reducible exact LeO.refl _)
   | (with_reducible exact LeO.none _)
   | (with_reducible refine LeO.ite ?_ ?_)
   | (with_reducible refine LeO.bind ?_ (fun _ => ?_))
   | exact ih0 _ _ _
   | exact LeO.none _
   | refine LeO.ite ?_ ?_
   | refine LeO.bind ?_ (fun _ => ?_)
theorem laws_toEntryS.mono : ∀ a0 k, LeO (laws_toEntryS.f k a0) (laws_toEntryS.f (k + 1) a0) := by
 intro a0 k
 have ih0 := laws_toEntryS.mono_l k
 unfold laws_toEntryS.f
 repeat' first
   | (with_reducible exact ih0 _ _ _)
   | (with_reducible exact LeO.refl _)
   | (with_reducible exact LeO.none _)
   | (with_reducible refine LeO.ite ?_ ?_)
   | (with_reducible refine LeO.bind ?_ (fun _ => ?_))
   | exact ih0 _ _ _
   | exact LeO.none _
   | refine LeO.ite ?_ ?_
   | refine LeO.bind ?_ (fun _ => ?_)
set_option maxHeartbeats 8000000 in
set_option maxRecDepth 100000 in
theorem laws_toEntryS.calls (k : Nat) (A0 : Option Addr) (c0 : Nat) (l0 : List (S49)) (r : List (S43)) (w : World) (hr0 : Kd.C k49 w A0 l0.length l0) (hc0 : l0.length ≤ c0) (h : laws_toEntryS.f k l0 = some r) :
  Calls Try.prog 7 #[.slice A0 l0.length c0] w fun e w' => ∃ v0_ : Value, e = .returned (v0_) ∧ Kd.R k43 43 w' w.heap.size (fun _ => True) v0_ r ∧ Below w.heap.size w w' := by
 have hu49 := Try.underlying49
 have hu43 := Try.underlying43
 have HR0 := Aside0.mk hr0
 have HC0 := Aside0.mk hc0
 clear hr0 hc0
 have HB := Aside0.mk (Below.refl w.heap.size w)
 have H : (if 0 ≤ (l0.length : Int) then (if ((l0.length : Int) : Int).toNat ≤ 11728124029610 then (laws_toEntryS.l0 k l0 (List.replicate ((l0.length : Int) : Int).toNat z43) 0) else (none)) else (none)) = some r := h
 clear h
 by_cases c2 : 0 ≤ (l0.length : Int)
 ·rw [if_pos c2] at H
  have c2b0 := eq_true c2
  have c2b1 : decide (0 ≤ (l0.length : Int)) = true := decide_eq_true c2
  clear c2
  obtain ⟨c3, H⟩ := ifS H
  have c3b0 := eq_true c3
  have c3b1 : decide (((l0.length : Int) : Int).toNat ≤ 11728124029610) = true := decide_eq_true c3
  clear c3
  obtain ⟨y166, hy166⟩ : ∃ y_ : List (S43), y_ = (List.replicate ((l0.length : Int) : Int).toNat z43) := ⟨_, rfl⟩
  replace H : (laws_toEntryS.l0 k l0 y166 0) = some r := by first | (rw [hy166]; with_reducible exact H) | (have H2_ := (Option.bind_some _ _).symm.trans H; rw [hy166]; with_reducible exact H2_) | (have H2_ := (Option.bind_some _ _).symm.trans H; with_reducible exact H2_) | with_reducible exact H | (rw [hy166]; exact H) | exact H
  have Ny166 := Aside0.mk hy166
  clear hy166
  have H' := Aside0.mk H
  clear H
  go_enter Try.func7, Try.ntmps7
  go_wp2_with (first | ((with_reducible refine gate_dst (N := 7) rfl ?_); refine Kd.R_make k43 _ 43 rfl (N := 7) rfl 24 _ _ rfl (l0.length : Int) rfl rfl Try.underlying24 (.agg #[(.int .i64 0), (.int .i64 0), (.bool false)]) 24 info43 rfl (by decide) (by omega) z43 (ok := fun _ => True) (okp := fun _ => True) (k43_mkM _ _ _ z43 ) (fun _ hk => hk) trivial (zD) (Nat.le_trans (Nat.mul_le_mul_right _ (zD : (l0.length : Int).toNat ≤ 11728124029610)) (by omega)) (Below.refl _ _) (Nat.le_refl _) ?_; intro v167 w4 ho5 hb hg_ hnew_; clear hg_ hnew_; (first | rw [← Ny166.out] at ho5 | (simp only [Int.reduceToNat] at ho5; rw [← Ny166.out] at ho5)); have HO168 := Aside0.mk (Kd.R_lower ho5 (below_size (zB HB))); replace HB := bS HB hb; clear hb ho5))
  go_loopg [4] k (fun kq v4 w' => ∃ (x3_1 : List (S43)) (x4_1 : Int), v4 = .int .i64 x4_1 ∧ Aside0 (laws_toEntryS.l0 kq l0 x3_1 x4_1 = some r) ∧ Aside0 (kq ≤ k) ∧ Aside0 (Kd.R k43 43 w' w.heap.size (fun _ => True) v167 x3_1) ∧ Aside0 (Below w.heap.size w w'))
  case atStart => exact ⟨(y166), (0), zF, H', ⟨Nat.le_refl _⟩, ⟨zR HO168⟩, ⟨zB HB⟩⟩
  case round =>
   clear H'
   try clear c2
   try clear c2b0
   try clear c2b1
   try clear p2
   try clear c3
   try clear c3b0
   try clear c3b1
   obtain ⟨x3_1, x4_1, rfl, HA, HK1, HO_3, HB⟩ := hrel
   cases gk with
   | zero => exact absurd HA.out (by simp [laws_toEntryS.l0])
   | succ k1 =>
    have H := HA.out
    clear HA
    simp only [laws_toEntryS.l0] at H
    by_cases c6 : x4_1 < (l0.length : Int)
    ·rw [if_pos c6] at H
     have c6b0 : decide (x4_1 < (l0.length : Int)) = true := decide_eq_true c6
     clear c6
     obtain ⟨c7, H⟩ := ifS H
     have c7b0 : decide (0 ≤ x4_1) = true := decide_eq_true c7
     clear c7
     replace H := Option.bind_eq_some_iff.mp H
     obtain ⟨⟨t170, t171, t172⟩, A80, H⟩ := H
     replace H : (if x4_1 < (x3_1.length : Int) then (laws_toEntryS.l0 k1 l0 (x3_1.set (x4_1 : Int).toNat (⟨t170, t171, t172⟩ : S43)) (wrap64 (x4_1 + 1))) else (none)) = some r := H
     have A8 := Aside0.mk A80
     clear A80
     obtain ⟨c9, H⟩ := ifS H
     have c9b0 : decide (x4_1 < (x3_1.length : Int)) = true := decide_eq_true c9
     clear c9
     obtain ⟨y173, hy173⟩ : ∃ y_ : List (S43), y_ = (x3_1.set (x4_1 : Int).toNat (⟨t170, t171, t172⟩ : S43)) := ⟨_, rfl⟩
     replace H : (laws_toEntryS.l0 k1 l0 y173 (wrap64 (x4_1 + 1))) = some r := by first | (rw [hy173]; with_reducible exact H) | (have H2_ := (Option.bind_some _ _).symm.trans H; rw [hy173]; with_reducible exact H2_) | (have H2_ := (Option.bind_some _ _).symm.trans H; with_reducible exact H2_) | with_reducible exact H | (rw [hy173]; exact H) | exact H
     have Ny173 := Aside0.mk hy173
     clear hy173
     have H' := Aside0.mk H
     clear H
     have p169 : 0 ≤ (x4_1 : Int) := zD
     have q169 : x4_1 < (l0.length : Int) := zD
     obtain ⟨ad169, e169, hx169_0, hx169_1, hx169_2⟩ := at_T49 HR0.out x4_1 p169 q169
     cases e169
     replace hx169_0 := hL HB hx169_0
     replace hx169_1 := hL HB hx169_1
     replace hx169_2 := hL HB hx169_2
     replace p169 := eq_true p169
     replace q169 := eq_true q169
     go_wp2_with (first | ((with_reducible refine gate_callee (f := 27) rfl ?_); refine goesL_ (some 20) rfl rfl Try.func27 (by kernel_rfl) rfl #[.agg #[.int .i64 ((rd_T49 l0 x4_1).f0), .int .i64 ((rd_T49 l0 x4_1).f1), .bool ((rd_T49 l0 x4_1).f2)]] rfl zG ?_; (with_reducible refine (laws_toEntry.calls ((rd_T49 l0 x4_1).f0) ((rd_T49 l0 x4_1).f1) ((rd_T49 l0 x4_1).f2) t170 t171 t172 _ A8.out).mono ?_); rintro e w11 ⟨rfl, hb⟩; refine ⟨_, rfl, ?_⟩; replace HO_3 := Aside0.mk (Kd.R_below (zR HO_3) hb); replace HB := bS HB hb; (try clear hb); have p10 : 0 ≤ (x4_1 : Int) := zD; have q10 : (x4_1 : Int) < ((x3_1.length : Int) : Int) := zD; obtain ⟨go10, co10, eo10, gb10, gl10, cl10, HG10⟩ := Kd.R_form HO_3.out (by omega); (first | cases eo10 | (injection eo10 with ea_ en_ ec_; (first | subst ea_ | (injection ea_ with ea_; subst ea_)); subst ec_; clear en_)); have GB10 := Aside0.mk gb10; have GG10 := Aside0.mk HG10; clear gb10 gl10 HG10; obtain ⟨ce10, hcl10, hM10, hcc10, hfr10⟩ := Kd.R_elem HO_3.out z43 (x4_1 : Int) p10 q10; obtain rfl := k43_openM hM10; have hx10_0 : w11.cell? ⟨go10, (x4_1 : Int).toNat * 3, none⟩ = some (.int .i64 ((rd_T43 x3_1 x4_1).f0)) := hcc10 0 _ rfl; have hx10_1 : w11.cell? ⟨go10, (x4_1 : Int).toNat * 3 + 1, none⟩ = some (.int .i64 ((rd_T43 x3_1 x4_1).f1)) := hcc10 1 _ rfl; have hx10_2 : w11.cell? ⟨go10, (x4_1 : Int).toNat * 3 + 2, none⟩ = some (.bool ((rd_T43 x3_1 x4_1).f2)) := hcc10 2 _ rfl; have hf10_0 : w11.frozen? ⟨go10, (x4_1 : Int).toNat * 3, none⟩ = false := hfr10 0; have hf10_1 : w11.frozen? ⟨go10, (x4_1 : Int).toNat * 3 + 1, none⟩ = false := hfr10 1; have hf10_2 : w11.frozen? ⟨go10, (x4_1 : Int).toNat * 3 + 2, none⟩ = false := hfr10 2; clear hcl10 hcc10 hfr10 hM10; replace p10 := eq_true p10; replace q10 := eq_true q10; have HX12 := Aside0.mk (show Kd.R k43 43 w11 w.heap.size (fun _ => True) (.slice (some ⟨go10, 0, none⟩) x3_1.length co10) x3_1 from (zR HO_3)); obtain ⟨ce12, hcl12, hM12, hcc12, hfr12⟩ := Kd.R_elem HX12.out z43 (x4_1 : Int) (zD) (by have h_ : (x4_1 : Int) < ((x3_1.length : Int) : Int) := zD; first | exact h_ | (have e_ := (Kd.R_reads' HO_3.out).1; omega) | simpa using h_); obtain rfl := k43_openM hM12; have HP12 := Kd.R_seg HX12.out (x4_1 : Int) (zD) (by have h_ : (x4_1 : Int) < ((x3_1.length : Int) : Int) := zD; first | exact h_ | (have e_ := (Kd.R_reads' HO_3.out).1; omega) | simpa using h_) (seg := [.int .i64 t170, .int .i64 t171, .bool t172]) (j := 0) hcl12 hcc12 (show 3 ≤ 3 from by decide) (x' := (⟨t170, t171, t172⟩ : S43)) (k43_mkM _ _ _ (⟨t170, t171, t172⟩ : S43) ) (fun _ hk => hk); have hx12_0 := hcc12 0 _ rfl; (try simp only [show (k43).sz = 3 from rfl, Nat.mul_one, Nat.add_zero] at hx12_0); have hf12_0 := hfr12 0; (try simp only [show (k43).sz = 3 from rfl, Nat.mul_one, Nat.add_zero] at hf12_0); have hx12_1 := hcc12 1 _ rfl; (try simp only [show (k43).sz = 3 from rfl, Nat.mul_one, Nat.add_zero] at hx12_1); have hf12_1 := hfr12 1; (try simp only [show (k43).sz = 3 from rfl, Nat.mul_one, Nat.add_zero] at hf12_1); have hx12_2 := hcc12 2 _ rfl; (try simp only [show (k43).sz = 3 from rfl, Nat.mul_one, Nat.add_zero] at hx12_2); have hf12_2 := hfr12 2; (try simp only [show (k43).sz = 3 from rfl, Nat.mul_one, Nat.add_zero] at hf12_2); clear hcl12 hcc12 hfr12 hM12) | ((with_reducible refine gate_store (t := 43) (p := 21) rfl ?_); refine store_event (t := 43) (p := 21) (v := ?vo_w13) (w1 := (((w11.setCell ⟨go10, (x4_1 : Int).toNat * 3, none⟩ (.int .i64 t170)).setCell ⟨go10, (x4_1 : Int).toNat * 3 + 1, none⟩ (.int .i64 t171)).setCell ⟨go10, (x4_1 : Int).toNat * 3 + 2, none⟩ (.bool t172))) ?hg ?ho ?hn ?hr ?_; (case ho => rfl); (case hg => rfl); (case hn => rfl); (case hr => first | (go_simp; done) | (go_simp; rfl)); intro w13 hw; have hg : w11.grownBy w13 (some go10) := (by rw [hw]; exact HP12.2); have hp_ : Kd.R k43 43 w13 w.heap.size (fun _ => True) (.slice (some ⟨go10, 0, none⟩) x3_1.length co10) y173 := (by rw [hw, Ny173.out]; exact HP12.1); clear HP12; replace HO_3 := Aside0.mk (hp_); replace HB := Aside0.mk ((by rw [hw]; exact below_set (below_set (below_set (HB.out) GB10.out) GB10.out) GB10.out : Below w.heap.size w w13)); clear hg hw hp_))
     go_roundg k1
     case measure => have := HK1.out; omega
     case rel => exact ⟨(y173), (wrap64 (x4_1 + 1)), zF, H', ⟨by have := HK1.out; omega⟩, ⟨zR HO_3⟩, ⟨zB HB⟩⟩
    ·rw [if_neg c6] at H
     have c6b0 : decide (x4_1 < (l0.length : Int)) = false := decide_eq_false c6
     clear c6
     obtain rfl := Option.some.inj H
     go_wp2
     go_ret
     exact ⟨_, zE, by (with_reducible repeat (first | apply Kd.R_alloc | apply Kd.R_drewN | apply Kd.R_drew)); exact HO_3.out, zB HB⟩
 ·rw [if_neg c2] at H
  exact absurd H (by simp)

/-! ### impl_InRange: function 28 -/
def impl_InRange.f (a0 : Int) (a1 : Int) (a2 : Int) : Option (Bool) := if a1 ≤ a0 then (some (decide (a0 ≤ a2))) else (some false)
set_option maxHeartbeats 8000000 in
set_option maxRecDepth 100000 in
theorem impl_InRange.calls (a0 : Int) (a1 : Int) (a2 : Int) (r : Bool) (w : World) (h : impl_InRange.f a0 a1 a2 = some r) :
  Calls Try.prog 28 #[.int .i64 a0, .int .i64 a1, .int .i64 a2] w fun e w' => e = .returned (.bool r) ∧ Drawn0 w w' := by
 have H : (if a1 ≤ a0 then (some (decide (a0 ≤ a2))) else (some false)) = some r := h
 clear h
 by_cases c4 : a1 ≤ a0
 ·rw [if_pos c4] at H
  have c4b0 : decide (a1 ≤ a0) = true := decide_eq_true c4
  clear c4
  obtain rfl := Option.some.inj H
  go_enter Try.func28, Try.ntmps28
  go_wp2
  go_ret
  exact ⟨by first | rfl | (simp; done) | (simp [*]; done), by repeat (first | exact Drawn0.refl _ | apply Drawn0.step)⟩
 ·rw [if_neg c4] at H
  have c4b0 : decide (a1 ≤ a0) = false := decide_eq_false c4
  clear c4
  obtain rfl := Option.some.inj H
  go_enter Try.func28, Try.ntmps28
  go_wp2
  go_ret
  exact ⟨by first | rfl | (simp; done) | (simp [*]; done), by repeat (first | exact Drawn0.refl _ | apply Drawn0.step)⟩

/-! ### impl_IsReserved: function 16 -/
def impl_IsReserved.f (a0 : Int) : Option (Bool) := (impl_InRange.f a0 0 255).bind fun t174 => (if t174 = true then (some ((Int.tmod a0 16) == 10)) else (some false))
set_option maxHeartbeats 8000000 in
set_option maxRecDepth 100000 in
theorem impl_IsReserved.calls (a0 : Int) (r : Bool) (w : World) (h : impl_IsReserved.f a0 = some r) :
  Calls Try.prog 16 #[.int .i64 a0] w fun e w' => e = .returned (.bool r) ∧ Drawn0 w w' := by
 have H : ((impl_InRange.f a0 0 255).bind fun t174 => (if t174 = true then (some ((Int.tmod a0 16) == 10)) else (some false))) = some r := h
 clear h
 obtain ⟨t174, A2, H⟩ := bindS H
 by_cases c3 : t174 = true
 ·subst c3
  have H1 : (some ((Int.tmod a0 16) == 10)) = some r := by rw [if_pos rfl] at H; exact H
  clear H
  have H := H1
  clear H1
  obtain rfl := Option.some.inj H
  go_enter Try.func16, Try.ntmps16
  go_wp2_with (first | ((with_reducible refine gate_callee (f := 28) rfl ?_); refine goesL_ (some 4) rfl rfl Try.func28 (by kernel_rfl) rfl #[.int .i64 a0, .int .i64 0, .int .i64 255] rfl zG ?_; (with_reducible refine (impl_InRange.calls a0 0 255 true _ A2.out).mono ?_); rintro e w' ⟨rfl, ⟨nd, rfl⟩⟩; refine ⟨_, rfl, ?_⟩))
  go_ret
  exact ⟨by first | rfl | (simp; done) | (simp [*]; done), by repeat (first | exact Drawn0.refl _ | apply Drawn0.step)⟩
 ·replace c3 := Bool.eq_false_iff.mpr c3
  subst c3
  have H1 : (some false) = some r := by rw [if_neg (show ¬ (false = true) by decide)] at H; exact H
  clear H
  have H := H1
  clear H1
  obtain rfl := Option.some.inj H
  go_enter Try.func16, Try.ntmps16
  go_wp2_with (first | ((with_reducible refine gate_callee (f := 28) rfl ?_); refine goesL_ (some 4) rfl rfl Try.func28 (by kernel_rfl) rfl #[.int .i64 a0, .int .i64 0, .int .i64 255] rfl zG ?_; (with_reducible refine (impl_InRange.calls a0 0 255 false _ A2.out).mono ?_); rintro e w' ⟨rfl, ⟨nd, rfl⟩⟩; refine ⟨_, rfl, ?_⟩))
  go_ret
  exact ⟨by first | rfl | (simp; done) | (simp [*]; done), by repeat (first | exact Drawn0.refl _ | apply Drawn0.step)⟩

end Go.Proofs.Ytgbfbdeeaogigaa.PFnExactAssignTag
