-- WRITTEN by pp.py, this session's own wrapper around the print; not trusted: Lean checks it
import Derived.Test.YtgbfbdeeaogigaaPFnRegistryx0
import Derived.Test.YtgbfbdeeaogigaaPFnRegistryx2
import Derived.Test.YtgbfbdeeaogigaaPFnRegistryx3
namespace Go.Proofs.Ytgbfbdeeaogigaa.PFnRegistry
open Go.RowKit Go.Proofs.Ytgbfbdeeaogigaa.Hw Go.Proofs.YtgbfbdeeaogigaaW.PrintWords Go.Proofs.YtgbfbdeeaogigaaW.PrintLast Go.Proofs.YtgbfbdeeaogigaaW.PrintMore
attribute [local go_sem] max2_int min2_int max_two min_two max_three min_three max_four min_four   -- for this text's walks alone
set_option linter.unusedVariables false
set_option linter.unusedSimpArgs false
set_option linter.unusedSectionVars false

/-! ### spec_OwnerOf: function 26 -/
def spec_OwnerOf.l0 : Nat → List (S43) → Int → Int → Option (Int)
 | 0, _, _, _ => none
 | k + 1, x0, x1, x5 => if x5 < (x0.length : Int) then (if 0 ≤ x5 then (if ((rd_T43 x0 x5).f0) = x1 then (some ((rd_T43 x0 x5).f1)) else (spec_OwnerOf.l0 k x0 x1 (wrap64 (x5 + 1)))) else (none)) else (some (-1))
def spec_OwnerOf.f (k : Nat) (l0 : List (S43)) (a1 : Int) : Option (Int) := spec_OwnerOf.l0 k l0 a1 0
theorem spec_OwnerOf.mono_l : ∀ k, (∀ y0 y1 y2, LeO (spec_OwnerOf.l0 k y0 y1 y2) (spec_OwnerOf.l0 (k + 1) y0 y1 y2))
 | 0 => fun _ _ _ r h => by simp [spec_OwnerOf.l0] at h
 | k + 1 => by
  have ih0 := spec_OwnerOf.mono_l k
  ·intro y0 y1 y2
   unfold spec_OwnerOf.l0
   repeat' first
   | (with_reducible exact ih0 _ _ _)
   | (with_reducible exact LeO.refl _)
   | (with_reducible exact LeO.none _)
   | (with_reducible refine LeO.ite ?_ ?_)
   | (with_reducible refine LeO.bind ?_ (fun _ => ?_))
   | exact ih0 _ _ _
   | exact LeO.none _
   | refine LeO.ite ?_ ?_
   | refine LeO.bind ?_ (fun _ => ?_)
theorem spec_OwnerOf.mono : ∀ a0 a1 k, LeO (spec_OwnerOf.f k a0 a1) (spec_OwnerOf.f (k + 1) a0 a1) := by
 intro a0 a1 k
 have ih0 := spec_OwnerOf.mono_l k
 unfold spec_OwnerOf.f
 repeat' first
   | (with_reducible exact ih0 _ _ _)
   | (with_reducible exact LeO.refl _)
   | (with_reducible exact LeO.none _)
   | (with_reducible refine LeO.ite ?_ ?_)
   | (with_reducible refine LeO.bind ?_ (fun _ => ?_))
   | exact ih0 _ _ _
   | exact LeO.none _
   | refine LeO.ite ?_ ?_
   | refine LeO.bind ?_ (fun _ => ?_)
set_option maxHeartbeats 8000000 in
set_option maxRecDepth 100000 in
theorem spec_OwnerOf.calls (k : Nat) (A0 : Option Addr) (c0 : Nat) (l0 : List (S43)) (a1 : Int) (r : Int) (w : World) (hr0 : Kd.C k43 w A0 l0.length l0) (hc0 : l0.length ≤ c0) (h : spec_OwnerOf.f k l0 a1 = some r) :
  Calls Try.prog 26 #[.slice A0 l0.length c0, .int .i64 a1] w fun e w' => e = .returned (.int .i64 r) ∧ Drawn0 w w' := by
 have HR0 := Aside0.mk hr0
 have HC0 := Aside0.mk hc0
 clear hr0 hc0
 have H : (spec_OwnerOf.l0 k l0 a1 0) = some r := h
 clear h
 have H' := Aside0.mk H
 clear H
 go_enter Try.func26, Try.ntmps26
 go_wp2
 go_loopg [5] k (fun kq v5 w' => ∃ (x5_1 : Int), v5 = .int .i64 x5_1 ∧ Aside0 (spec_OwnerOf.l0 kq l0 a1 x5_1 = some r) ∧ Aside0 (kq ≤ k) ∧ Drawn0 w w')
 case atStart => exact ⟨(0), zF, H', ⟨Nat.le_refl _⟩, by repeat (first | exact Drawn0.refl _ | apply Drawn0.step)⟩
 case round =>
  clear H'
  try clear c2
  try clear p2
  obtain ⟨x5_1, rfl, HA, HK1, ⟨m1, rfl⟩⟩ := hrel
  cases gk with
  | zero => exact absurd HA.out (by simp [spec_OwnerOf.l0])
  | succ k1 =>
   have H := HA.out
   clear HA
   simp only [spec_OwnerOf.l0] at H
   by_cases c3 : x5_1 < (l0.length : Int)
   ·rw [if_pos c3] at H
    have c3b0 : decide (x5_1 < (l0.length : Int)) = true := decide_eq_true c3
    clear c3
    obtain ⟨c4, H⟩ := ifS H
    have c4b0 : decide (0 ≤ x5_1) = true := decide_eq_true c4
    clear c4
    by_cases c5 : ((rd_T43 l0 x5_1).f0) = a1
    ·rw [if_pos c5] at H
     have c5b0 : (((rd_T43 l0 x5_1).f0) == a1) = true := beq_iff_eq.mpr c5
     have c5b1 : (((rd_T43 l0 x5_1).f0) != a1) = false := bne_eq_false_iff_eq.mpr c5
     clear c5
     obtain rfl := Option.some.inj H
     have p135 : 0 ≤ (x5_1 : Int) := zD
     have q135 : x5_1 < (l0.length : Int) := zD
     obtain ⟨ad135, e135, hx135_0, hx135_1, hx135_2⟩ := at_T43 HR0.out x5_1 p135 q135
     cases e135
     replace p135 := eq_true p135
     replace q135 := eq_true q135
     have p136 : 0 ≤ (x5_1 : Int) := zD
     have q136 : x5_1 < (l0.length : Int) := zD
     obtain ⟨ad136, e136, hx136_0, hx136_1, hx136_2⟩ := at_T43 HR0.out x5_1 p136 q136
     obtain rfl : ad135 = ad136 := (by injection e136)
     replace p136 := eq_true p136
     replace q136 := eq_true q136
     go_wp2
     go_ret
     exact ⟨by first | rfl | (simp; done) | (simp [*]; done), by repeat (first | exact Drawn0.refl _ | apply Drawn0.step)⟩
    ·rw [if_neg c5] at H
     have c5b0 : (((rd_T43 l0 x5_1).f0) == a1) = false := beq_eq_false_iff_ne.mpr c5
     have c5b1 : (((rd_T43 l0 x5_1).f0) != a1) = true := bne_iff_ne.mpr c5
     have H' := Aside0.mk H
     clear H
     have p135 : 0 ≤ (x5_1 : Int) := zD
     have q135 : x5_1 < (l0.length : Int) := zD
     obtain ⟨ad135, e135, hx135_0, hx135_1, hx135_2⟩ := at_T43 HR0.out x5_1 p135 q135
     cases e135
     replace p135 := eq_true p135
     replace q135 := eq_true q135
     go_wp2
     go_roundg k1
     case measure => have := HK1.out; omega
     case rel => exact ⟨(wrap64 (x5_1 + 1)), zF, H', ⟨by have := HK1.out; omega⟩, by repeat (first | exact Drawn0.refl _ | apply Drawn0.step)⟩
   ·rw [if_neg c3] at H
    have c3b0 : decide (x5_1 < (l0.length : Int)) = false := decide_eq_false c3
    clear c3
    obtain rfl := Option.some.inj H
    go_wp2
    go_ret
    exact ⟨by first | rfl | (simp; done) | (simp [*]; done), by repeat (first | exact Drawn0.refl _ | apply Drawn0.step)⟩

/-! ### spec_AssignTag: function 6 -/
mutual
def spec_AssignTag.j0 : Nat → List (S43) → Int → Bool → Option ((List (S43)) × Int × Bool)
 | 0, _, _, _ => none
 | k + 1, x0, x1, x22 => if x22 = true then ((some (([] : List (S43)) : List (S43))).bind fun y139 => (if y139.length + x0.length < 5864062014805 then (some ((y139 ++ x0), (-1), false)) else (none))) else (spec_AssignTag.l0 k x0 x1 0)
def spec_AssignTag.l0 : Nat → List (S43) → Int → Int → Option ((List (S43)) × Int × Bool)
 | 0, _, _, _ => none
 | k + 1, x0, x1, x7 => (spec_IsReserved.f x7).bind fun t145 => (if t145 = true then (spec_AssignTag.l0 k x0 x1 (wrap64 (x7 + 1))) else ((spec_OwnerOf.f k x0 x7).bind fun t146 => (if t146 ≥ 0 then (spec_AssignTag.l0 k x0 x1 (wrap64 (x7 + 1))) else (spec_AssignTag.l1 k x0 x1 x7 0))))
def spec_AssignTag.l1 : Nat → List (S43) → Int → Int → Int → Option ((List (S43)) × Int × Bool)
 | 0, _, _, _, _ => none
 | k + 1, x0, x1, x7, x8 => if x8 < (x0.length : Int) then (if 0 ≤ x8 then (if ((rd_T43 x0 x8).f0) < x7 then (spec_AssignTag.l1 k x0 x1 x7 (wrap64 (x8 + 1))) else ((some (([] : List (S43)) : List (S43))).bind fun y148 => (if x8 ≤ (x0.length : Int) then ((some (x0.take (x8 : Int).toNat : List (S43))).bind fun y151 => (if y148.length + y151.length < 5864062014805 then ((some (y148 ++ y151 : List (S43))).bind fun y155 => (if y155.length < 5864062014805 then ((some (y155 ++ [(⟨x7, x1, false⟩ : S43)] : List (S43))).bind fun y158 => ((some (x0.drop (x8 : Int).toNat : List (S43))).bind fun y161 => (if y158.length + y161.length < 5864062014805 then (some ((y158 ++ y161), x7, true)) else (none)))) else (none))) else (none))) else (none)))) else (none)) else ((some (([] : List (S43)) : List (S43))).bind fun y168 => (if 0 ≤ x8 then (if x8 ≤ (x0.length : Int) then ((some (x0.take (x8 : Int).toNat : List (S43))).bind fun y171 => (if y168.length + y171.length < 5864062014805 then ((some (y168 ++ y171 : List (S43))).bind fun y175 => (if y175.length < 5864062014805 then ((some (y175 ++ [(⟨x7, x1, false⟩ : S43)] : List (S43))).bind fun y178 => ((some (x0.drop (x8 : Int).toNat : List (S43))).bind fun y181 => (if y178.length + y181.length < 5864062014805 then (some ((y178 ++ y181), x7, true)) else (none)))) else (none))) else (none))) else (none)) else (none)))
end
def spec_AssignTag.f (k : Nat) (l0 : List (S43)) (a1 : Int) : Option ((List (S43)) × Int × Bool) := (spec_IsRegistry.f k l0).bind fun t137 => (if t137 = true then ((spec_l1In.f a1 0 9).bind fun t138 => (if t138 = true then (spec_AssignTag.j0 k l0 a1 (decide ((l0.length : Int) ≥ 12))) else (spec_AssignTag.j0 k l0 a1 true))) else (spec_AssignTag.j0 k l0 a1 true))
theorem spec_AssignTag.mono_l : ∀ k, (∀ y0 y1 y2, LeO (spec_AssignTag.j0 k y0 y1 y2) (spec_AssignTag.j0 (k + 1) y0 y1 y2)) ∧ (∀ y0 y1 y2, LeO (spec_AssignTag.l0 k y0 y1 y2) (spec_AssignTag.l0 (k + 1) y0 y1 y2)) ∧ (∀ y0 y1 y2 y3, LeO (spec_AssignTag.l1 k y0 y1 y2 y3) (spec_AssignTag.l1 (k + 1) y0 y1 y2 y3))
 | 0 => ⟨fun _ _ _ r h => by simp [spec_AssignTag.j0] at h, fun _ _ _ r h => by simp [spec_AssignTag.l0] at h, fun _ _ _ _ r h => by simp [spec_AssignTag.l1] at h⟩
 | k + 1 => by
  obtain ⟨ih0, ih1, ih2⟩ := spec_AssignTag.mono_l k
  refine ⟨?_, ?_, ?_⟩
  ·intro y0 y1 y2
   unfold spec_AssignTag.j0
   repeat' first
   | (with_reducible exact ih0 _ _ _)
   | (with_reducible exact ih1 _ _ _)
   | (with_reducible exact ih2 _ _ _ _)
   | (with_reducible exact spec_IsRegistry.mono _ _)
   | (with_reducible exact spec_OwnerOf.mono _ _ _)
   | (with_reducible exact LeO.refl _)
   | (with_reducible exact LeO.none _)
   | (with_reducible refine LeO.ite ?_ ?_)
   | (with_reducible refine LeO.bind ?_ (fun _ => ?_))
   | exact ih0 _ _ _
   | exact ih1 _ _ _
   | exact ih2 _ _ _ _
   | exact spec_IsRegistry.mono _ _
   | exact spec_OwnerOf.mono _ _ _
   | exact LeO.none _
   | refine LeO.ite ?_ ?_
   | refine LeO.bind ?_ (fun _ => ?_)
  ·intro y0 y1 y2
   unfold spec_AssignTag.l0
   repeat' first
   | (with_reducible exact ih0 _ _ _)
   | (with_reducible exact ih1 _ _ _)
   | (with_reducible exact ih2 _ _ _ _)
   | (with_reducible exact spec_IsRegistry.mono _ _)
   | (with_reducible exact spec_OwnerOf.mono _ _ _)
   | (with_reducible exact LeO.refl _)
   | (with_reducible exact LeO.none _)
   | (with_reducible refine LeO.ite ?_ ?_)
   | (with_reducible refine LeO.bind ?_ (fun _ => ?_))
   | exact ih0 _ _ _
   | exact ih1 _ _ _
   | exact ih2 _ _ _ _
   | exact spec_IsRegistry.mono _ _
   | exact spec_OwnerOf.mono _ _ _
   | exact LeO.none _
   | refine LeO.ite ?_ ?_
   | refine LeO.bind ?_ (fun _ => ?_)
  ·intro y0 y1 y2 y3
   unfold spec_AssignTag.l1
   repeat' first
   | (with_reducible exact ih0 _ _ _)
   | (with_reducible exact ih1 _ _ _)
   | (with_reducible exact ih2 _ _ _ _)
   | (with_reducible exact spec_IsRegistry.mono _ _)
   | (with_reducible exact spec_OwnerOf.mono _ _ _)
   | (with_reducible exact LeO.refl _)
   | (with_reducible exact LeO.none _)
   | (with_reducible refine LeO.ite ?_ ?_)
   | (with_reducible refine LeO.bind ?_ (fun _ => ?_))
   | exact ih0 _ _ _
   | exact ih1 _ _ _
   | exact ih2 _ _ _ _
   | exact spec_IsRegistry.mono _ _
   | exact spec_OwnerOf.mono _ _ _
   | exact LeO.none _
   | refine LeO.ite ?_ ?_
   | refine LeO.bind ?_ (fun _ => ?_)
theorem spec_AssignTag.mono : ∀ a0 a1 k, LeO (spec_AssignTag.f k a0 a1) (spec_AssignTag.f (k + 1) a0 a1) := by
 intro a0 a1 k
 obtain ⟨ih0, ih1, ih2⟩ := spec_AssignTag.mono_l k
 unfold spec_AssignTag.f
 repeat' first
   | (with_reducible exact ih0 _ _ _)
   | (with_reducible exact ih1 _ _ _)
   | (with_reducible exact ih2 _ _ _ _)
   | (with_reducible exact spec_IsRegistry.mono _ _)
   | (with_reducible exact spec_OwnerOf.mono _ _ _)
   | (with_reducible exact LeO.refl _)
   | (with_reducible exact LeO.none _)
   | (with_reducible refine LeO.ite ?_ ?_)
   | (with_reducible refine LeO.bind ?_ (fun _ => ?_))
   | exact ih0 _ _ _
   | exact ih1 _ _ _
   | exact ih2 _ _ _ _
   | exact spec_IsRegistry.mono _ _
   | exact spec_OwnerOf.mono _ _ _
   | exact LeO.none _
   | refine LeO.ite ?_ ?_
   | refine LeO.bind ?_ (fun _ => ?_)
set_option maxHeartbeats 8000000 in
set_option maxRecDepth 100000 in
theorem spec_AssignTag.calls (k : Nat) (A0 : Option Addr) (c0 : Nat) (l0 : List (S43)) (a1 : Int) (r1 : List (S43)) (r2 : Int) (r3 : Bool) (w : World) (hr0 : Kd.C k43 w A0 l0.length l0) (hc0 : l0.length ≤ c0) (h : spec_AssignTag.f k l0 a1 = some (r1, r2, r3)) :
  Calls Try.prog 6 #[.slice A0 l0.length c0, .int .i64 a1] w fun e w' => ∃ v0_ : Value, e = .returned (.tuple #[v0_, .int .i64 r2, .bool r3]) ∧ Kd.R k43 43 w' w.heap.size (fun _ => True) v0_ r1 ∧ Below w.heap.size w w' := by
 have hu43 := Try.underlying43
 have HR0 := Aside0.mk hr0
 have HC0 := Aside0.mk hc0
 clear hr0 hc0
 have HB := Aside0.mk (Below.refl w.heap.size w)
 have H : ((spec_IsRegistry.f k l0).bind fun t137 => (if t137 = true then ((spec_l1In.f a1 0 9).bind fun t138 => (if t138 = true then (spec_AssignTag.j0 k l0 a1 (decide ((l0.length : Int) ≥ 12))) else (spec_AssignTag.j0 k l0 a1 true))) else (spec_AssignTag.j0 k l0 a1 true))) = some (r1, r2, r3) := h
 clear h
 have HC3 := Aside0.mk H
 clear H
 go_enter Try.func6, Try.ntmps6
 go_upto_region 1 with (fail)
 go_cut [22] (fun v22 wc => ∃ (kq : Nat) (x22_2 : Bool), v22 = .bool x22_2 ∧ Aside0 (spec_AssignTag.j0 kq l0 a1 x22_2 = some (r1, r2, r3)) ∧ Aside0 (kq ≤ k) ∧ Aside0 (Below w.heap.size w wc))
 case first =>
  have H := HC3.out
  clear HC3
  obtain ⟨t137, A4, H⟩ := bindS H
  by_cases c5 : t137 = true
  ·subst c5
   have H1 : ((spec_l1In.f a1 0 9).bind fun t138 => (if t138 = true then (spec_AssignTag.j0 k l0 a1 (decide ((l0.length : Int) ≥ 12))) else (spec_AssignTag.j0 k l0 a1 true))) = some (r1, r2, r3) := by rw [if_pos rfl] at H; exact H
   clear H
   have H := H1
   clear H1
   obtain ⟨t138, A6, H⟩ := bindS H
   by_cases c7 : t138 = true
   ·subst c7
    have H1 : (spec_AssignTag.j0 k l0 a1 (decide ((l0.length : Int) ≥ 12))) = some (r1, r2, r3) := by rw [if_pos rfl] at H; exact H
    clear H
    have H := H1
    clear H1
    have H' := Aside0.mk H
    clear H
    go_wp2_with (first | ((with_reducible refine gate_callee (f := 23) rfl ?_); refine goesL_ (some 11) rfl rfl Try.func23 (by kernel_rfl) rfl #[.slice A0 l0.length c0] rfl zG ?_; (with_reducible refine (spec_IsRegistry.calls k _ _ l0 true _ ?side1 ?side2 A4.out).mono ?_); (case side1 => exact cS HR0 HB); (case side2 => exact HC0.out); rintro e w8 ⟨rfl, hb⟩; refine ⟨_, rfl, ?_⟩; replace HB := bS HB hb; (try clear hb)) | (go_at_call 24; (with_reducible refine (spec_l1In.calls a1 0 9 true _ A6.out).mono ?_); rintro e w' ⟨rfl, ⟨nd, rfl⟩⟩))
    go_meet
    case rel => exact ⟨_, (decide ((l0.length : Int) ≥ 12)), zF, H', ⟨by first | omega | exact Nat.le_refl _⟩, ⟨zB HB⟩⟩
   ·replace c7 := Bool.eq_false_iff.mpr c7
    subst c7
    have H1 : (spec_AssignTag.j0 k l0 a1 true) = some (r1, r2, r3) := by rw [if_neg (show ¬ (false = true) by decide)] at H; exact H
    clear H
    have H := H1
    clear H1
    have H' := Aside0.mk H
    clear H
    go_wp2_with (first | ((with_reducible refine gate_callee (f := 23) rfl ?_); refine goesL_ (some 11) rfl rfl Try.func23 (by kernel_rfl) rfl #[.slice A0 l0.length c0] rfl zG ?_; (with_reducible refine (spec_IsRegistry.calls k _ _ l0 true _ ?side1 ?side2 A4.out).mono ?_); (case side1 => exact cS HR0 HB); (case side2 => exact HC0.out); rintro e w9 ⟨rfl, hb⟩; refine ⟨_, rfl, ?_⟩; replace HB := bS HB hb; (try clear hb)) | (go_at_call 24; (with_reducible refine (spec_l1In.calls a1 0 9 false _ A6.out).mono ?_); rintro e w' ⟨rfl, ⟨nd, rfl⟩⟩))
    go_meet
    case rel => exact ⟨_, (true), zF, H', ⟨by first | omega | exact Nat.le_refl _⟩, ⟨zB HB⟩⟩
  ·replace c5 := Bool.eq_false_iff.mpr c5
   subst c5
   have H1 : (spec_AssignTag.j0 k l0 a1 true) = some (r1, r2, r3) := by rw [if_neg (show ¬ (false = true) by decide)] at H; exact H
   clear H
   have H := H1
   clear H1
   have H' := Aside0.mk H
   clear H
   go_wp2_with (first | ((with_reducible refine gate_callee (f := 23) rfl ?_); refine goesL_ (some 11) rfl rfl Try.func23 (by kernel_rfl) rfl #[.slice A0 l0.length c0] rfl zG ?_; (with_reducible refine (spec_IsRegistry.calls k _ _ l0 false _ ?side1 ?side2 A4.out).mono ?_); (case side1 => exact cS HR0 HB); (case side2 => exact HC0.out); rintro e w10 ⟨rfl, hb⟩; refine ⟨_, rfl, ?_⟩; replace HB := bS HB hb; (try clear hb)))
   go_meet
   case rel => exact ⟨_, (true), zF, H', ⟨by first | omega | exact Nat.le_refl _⟩, ⟨zB HB⟩⟩
 case rest =>
  clear HC3
  try clear c2
  try clear p2
  try clear c5
  try clear c6
  try clear c7
  obtain ⟨kq, x22_2, rfl, HA, HJ2, HB⟩ := hcut
  cases kq with
  | zero => exact absurd HA.out (by simp [spec_AssignTag.j0])
  | succ kj2 =>
   have H := HA.out
   clear HA
   simp only [spec_AssignTag.j0] at H
   by_cases c11 : x22_2 = true
   ·subst c11
    have H1 : ((some (([] : List (S43)) : List (S43))).bind fun y139 => (if y139.length + l0.length < 5864062014805 then (some ((y139 ++ l0), (-1), false)) else (none))) = some (r1, r2, r3) := by rw [if_pos rfl] at H; exact H
    clear H
    have H := H1
    clear H1
    obtain ⟨y139, hy139⟩ : ∃ y_ : List (S43), y_ = (([] : List (S43))) := ⟨_, rfl⟩
    replace H : (if y139.length + l0.length < 5864062014805 then (some ((y139 ++ l0), (-1), false)) else (none)) = some (r1, r2, r3) := by first | (rw [hy139]; with_reducible exact H) | (have H2_ := (Option.bind_some _ _).symm.trans H; rw [hy139]; with_reducible exact H2_) | (have H2_ := (Option.bind_some _ _).symm.trans H; with_reducible exact H2_) | with_reducible exact H | (rw [hy139]; exact H) | exact H
    have Ny139 := Aside0.mk hy139
    clear hy139
    obtain ⟨c12, H⟩ := ifS H
    have LMc12 := Aside0.mk c12
    clear c12
    obtain ⟨y142, hy142⟩ : ∃ y_ : List (S43), y_ = (y139 ++ l0) := ⟨_, rfl⟩
    replace H : (some (y142, (-1), false)) = some (r1, r2, r3) := by first | (rw [hy142]; with_reducible exact H) | (have H2_ := (Option.bind_some _ _).symm.trans H; rw [hy142]; with_reducible exact H2_) | (have H2_ := (Option.bind_some _ _).symm.trans H; with_reducible exact H2_) | with_reducible exact H | (rw [hy142]; exact H) | exact H
    have Ny142 := Aside0.mk hy142
    clear hy142
    simp only [Option.some.injEq, Prod.mk.injEq] at H
    obtain ⟨rfl, rfl, rfl⟩ := H
    go_wp2_with (first | ((with_reducible refine gate_dst (N := 23) rfl ?_); (try (refine gate_guard (by rfl) ?_; dsimp only)); refine Kd.R_lit k43 _ 43 ?hg (N := 23) ?hd (xs := ([] : List (S43))) (inner := []) (ok := fun _ => True) (okp := fun _ => True) ?hr ?hp (fun _ hk => hk) trivial (Below.refl _ _) (Nat.le_refl _) (by simp) ?_; (case hd => rfl); (case hg => rfl); (case hr => first | (go_simp; done) | (go_simp; rfl)); (case hp => exact (Reps.none _ _)); intro v140 w13 ho14 hb hg_ hnew_; clear hg_ hnew_; (first | rw [← Ny139.out] at ho14 | (simp only [Int.reduceToNat] at ho14; rw [← Ny139.out] at ho14)); have HO141 := Aside0.mk (Kd.R_lower ho14 (below_size (zB HB))); replace HB := bS HB hb; clear hb ho14) | ((with_reducible refine gate_builtin (b := .append) (xs := #[.tmp 23, .tmp 24]) rfl ?_); (try (refine gate_guard (by rfl) ?_; dsimp only)); at_builtin; refine Kd.R_append_rows k43 (w0 := w) w.heap.size rfl (.tmp 23) (.tmp 24) 24 43 (.agg #[(.int .i64 0), (.int .i64 0), (.bool false)]) 24 rfl Try.underlying24 info43 rfl (by decide) (by omega) v140 y139 l0 _ _ _ (fun _ => True) (fun _ => False) rfl rfl ?aO ?aR (fun _ _ h => h) (fun _ h => h.elim) ?aF ?aB ?aS ?aL ?_; (case aR => repeat (first | exact (Kd.C_below HR0.out HB.out) | (with_reducible refine Kd.C_alloc ?_ _) | (with_reducible refine Kd.C_drewN ?_ _) | (with_reducible refine Kd.C_drew ?_))); (case aB => exact (zB HB)); (case aF => exact (fun _ _ => trivial)); (case aO => exact (zR HO141)); (case aS => exact (below_size (zB HB))); (case aL => have := LMc12.out; omega); intro v143 w15 ho hb hg hat; rw [← Ny142.out] at ho; replace HB := Aside0.mk (hb); have HO144 := Aside0.mk (ho); clear HO141; clear ho hb hg hat))
    go_ret3
    exact ⟨_, zE, by (with_reducible repeat (first | apply Kd.R_alloc | apply Kd.R_drewN | apply Kd.R_drew)); exact HO144.out, zB HB⟩
   ·replace c11 := Bool.eq_false_iff.mpr c11
    subst c11
    have H1 : (spec_AssignTag.l0 kj2 l0 a1 0) = some (r1, r2, r3) := by rw [if_neg (show ¬ (false = true) by decide)] at H; exact H
    clear H
    have H := H1
    clear H1
    have H' := Aside0.mk H
    clear H
    go_wp2
    go_loopg [7] kj2 (fun kq v7 w' => ∃ (x7_2 : Int), v7 = .int .i64 x7_2 ∧ Aside0 (spec_AssignTag.l0 kq l0 a1 x7_2 = some (r1, r2, r3)) ∧ Aside0 (kq ≤ kj2) ∧ Aside0 (Below w.heap.size w w'))
    case atStart => exact ⟨(0), zF, H', ⟨Nat.le_refl _⟩, ⟨zB HB⟩⟩
    case round =>
     clear H'
     try clear c1
     try clear c2
     try clear p2
     try clear c5
     try clear c6
     try clear c7
     try clear c11
     try clear c12
     try clear p2
     obtain ⟨x7_2, rfl, HA, HK2, HB⟩ := hrel
     cases gk with
     | zero => exact absurd HA.out (by simp [spec_AssignTag.l0])
     | succ k2 =>
      have H := HA.out
      clear HA
      simp only [spec_AssignTag.l0] at H
      obtain ⟨t145, A16, H⟩ := bindS H
      by_cases c17 : t145 = true
      ·subst c17
       have H1 : (spec_AssignTag.l0 k2 l0 a1 (wrap64 (x7_2 + 1))) = some (r1, r2, r3) := by rw [if_pos rfl] at H; exact H
       clear H
       have H := H1
       clear H1
       have H' := Aside0.mk H
       clear H
       go_wp2_with (first | ((with_reducible refine gate_callee (f := 25) rfl ?_); refine goesL_ (some 27) rfl rfl Try.func25 (by kernel_rfl) rfl #[.int .i64 x7_2] rfl zG ?_; (with_reducible refine (spec_IsReserved.calls x7_2 true _ A16.out).mono ?_); rintro e w' ⟨rfl, ⟨nd, rfl⟩⟩; refine ⟨_, rfl, ?_⟩))
       go_roundg k2
       case measure => have := HJ2.out; have := HK2.out; omega
       case rel => exact ⟨(wrap64 (x7_2 + 1)), zF, H', ⟨by have := HJ2.out; have := HK2.out; omega⟩, ⟨zB HB⟩⟩
      ·replace c17 := Bool.eq_false_iff.mpr c17
       subst c17
       have H1 : ((spec_OwnerOf.f k2 l0 x7_2).bind fun t146 => (if t146 ≥ 0 then (spec_AssignTag.l0 k2 l0 a1 (wrap64 (x7_2 + 1))) else (spec_AssignTag.l1 k2 l0 a1 x7_2 0))) = some (r1, r2, r3) := by rw [if_neg (show ¬ (false = true) by decide)] at H; exact H
       clear H
       have H := H1
       clear H1
       obtain ⟨t146, A18, H⟩ := bindS H
       by_cases c19 : t146 ≥ 0
       ·rw [if_pos c19] at H
        have c19b0 : decide (0 ≤ t146) = true := decide_eq_true c19
        clear c19
        have H' := Aside0.mk H
        clear H
        go_wp2_with (first | ((with_reducible refine gate_callee (f := 25) rfl ?_); refine goesL_ (some 27) rfl rfl Try.func25 (by kernel_rfl) rfl #[.int .i64 x7_2] rfl zG ?_; (with_reducible refine (spec_IsReserved.calls x7_2 false _ A16.out).mono ?_); rintro e w' ⟨rfl, ⟨nd, rfl⟩⟩; refine ⟨_, rfl, ?_⟩) | (go_at_call 26; (with_reducible refine (spec_OwnerOf.calls k2 _ _ l0 x7_2 t146 _ ?side1 ?side2 A18.out).mono ?_); (case side1 => repeat (first | exact (Kd.C_below HR0.out (zB HB)) | (with_reducible refine Kd.C_alloc ?_ _) | (with_reducible refine Kd.C_drewN ?_ _) | (with_reducible refine Kd.C_drew ?_))); (case side2 => exact HC0.out); rintro e w' ⟨rfl, ⟨nd, rfl⟩⟩))
        go_roundg k2
        case measure => have := HJ2.out; have := HK2.out; omega
        case rel => exact ⟨(wrap64 (x7_2 + 1)), zF, H', ⟨by have := HJ2.out; have := HK2.out; omega⟩, ⟨zB HB⟩⟩
       ·rw [if_neg c19] at H
        have c19b0 : decide (0 ≤ t146) = false := decide_eq_false c19
        clear c19
        have H' := Aside0.mk H
        clear H
        go_wp2_with (first | ((with_reducible refine gate_callee (f := 25) rfl ?_); refine goesL_ (some 27) rfl rfl Try.func25 (by kernel_rfl) rfl #[.int .i64 x7_2] rfl zG ?_; (with_reducible refine (spec_IsReserved.calls x7_2 false _ A16.out).mono ?_); rintro e w' ⟨rfl, ⟨nd, rfl⟩⟩; refine ⟨_, rfl, ?_⟩) | (go_at_call 26; (with_reducible refine (spec_OwnerOf.calls k2 _ _ l0 x7_2 t146 _ ?side1 ?side2 A18.out).mono ?_); (case side1 => repeat (first | exact (Kd.C_below HR0.out (zB HB)) | (with_reducible refine Kd.C_alloc ?_ _) | (with_reducible refine Kd.C_drewN ?_ _) | (with_reducible refine Kd.C_drew ?_))); (case side2 => exact HC0.out); rintro e w' ⟨rfl, ⟨nd, rfl⟩⟩))
        go_loopg [8] k2 (fun kq v8 w' => ∃ (x8_3 : Int), v8 = .int .i64 x8_3 ∧ Aside0 (spec_AssignTag.l1 kq l0 a1 x7_2 x8_3 = some (r1, r2, r3)) ∧ Aside0 (kq ≤ k2) ∧ Aside0 (Below w.heap.size w w'))
        case atStart => exact ⟨(0), zF, H', ⟨Nat.le_refl _⟩, ⟨zB HB⟩⟩
        case round =>
         clear H'
         try clear c1
         try clear c2
         try clear p2
         try clear c5
         try clear c6
         try clear p6
         try clear c7
         try clear c11
         try clear c12
         try clear c17
         try clear c19
         try clear c19b0
         try clear p2
         obtain ⟨x8_3, rfl, HA, HK3, HB⟩ := hrel
         cases gk with
         | zero => exact absurd HA.out (by simp [spec_AssignTag.l1])
         | succ k3 =>
          have H := HA.out
          clear HA
          simp only [spec_AssignTag.l1] at H
          by_cases c20 : x8_3 < (l0.length : Int)
          ·rw [if_pos c20] at H
           have c20b0 : decide (x8_3 < (l0.length : Int)) = true := decide_eq_true c20
           clear c20
           obtain ⟨c21, H⟩ := ifS H
           have c21b0 : decide (0 ≤ x8_3) = true := decide_eq_true c21
           clear c21
           by_cases c22 : ((rd_T43 l0 x8_3).f0) < x7_2
           ·rw [if_pos c22] at H
            have c22b0 : decide (((rd_T43 l0 x8_3).f0) < x7_2) = true := decide_eq_true c22
            clear c22
            have H' := Aside0.mk H
            clear H
            have p147 : 0 ≤ (x8_3 : Int) := zD
            have q147 : x8_3 < (l0.length : Int) := zD
            obtain ⟨ad147, e147, hx147_0, hx147_1, hx147_2⟩ := at_T43 HR0.out x8_3 p147 q147
            cases e147
            replace hx147_0 := hL HB hx147_0
            replace hx147_1 := hL HB hx147_1
            replace hx147_2 := hL HB hx147_2
            replace p147 := eq_true p147
            replace q147 := eq_true q147
            go_wp2
            go_roundg k3
            case measure => have := HJ2.out; have := HK2.out; have := HK3.out; omega
            case rel => exact ⟨(wrap64 (x8_3 + 1)), zF, H', ⟨by have := HJ2.out; have := HK2.out; have := HK3.out; omega⟩, ⟨zB HB⟩⟩
           ·rw [if_neg c22] at H
            have c22b0 : decide (((rd_T43 l0 x8_3).f0) < x7_2) = false := decide_eq_false c22
            clear c22
            obtain ⟨y148, hy148⟩ : ∃ y_ : List (S43), y_ = (([] : List (S43))) := ⟨_, rfl⟩
            replace H : (if x8_3 ≤ (l0.length : Int) then ((some (l0.take (x8_3 : Int).toNat : List (S43))).bind fun y151 => (if y148.length + y151.length < 5864062014805 then ((some (y148 ++ y151 : List (S43))).bind fun y155 => (if y155.length < 5864062014805 then ((some (y155 ++ [(⟨x7_2, a1, false⟩ : S43)] : List (S43))).bind fun y158 => ((some (l0.drop (x8_3 : Int).toNat : List (S43))).bind fun y161 => (if y158.length + y161.length < 5864062014805 then (some ((y158 ++ y161), x7_2, true)) else (none)))) else (none))) else (none))) else (none)) = some (r1, r2, r3) := by first | (rw [hy148]; with_reducible exact H) | (have H2_ := (Option.bind_some _ _).symm.trans H; rw [hy148]; with_reducible exact H2_) | (have H2_ := (Option.bind_some _ _).symm.trans H; with_reducible exact H2_) | with_reducible exact H | (rw [hy148]; exact H) | exact H
            have Ny148 := Aside0.mk hy148
            clear hy148
            have c23b0 := eq_true (zD : 0 ≤ x8_3)
            obtain ⟨c24, H⟩ := ifS H
            have c24b0 := eq_true c24
            have c24b1 : decide (x8_3 ≤ (l0.length : Int)) = true := decide_eq_true c24
            clear c24
            obtain ⟨y151, hy151⟩ : ∃ y_ : List (S43), y_ = (l0.take (x8_3 : Int).toNat) := ⟨_, rfl⟩
            replace H : (if y148.length + y151.length < 5864062014805 then ((some (y148 ++ y151 : List (S43))).bind fun y155 => (if y155.length < 5864062014805 then ((some (y155 ++ [(⟨x7_2, a1, false⟩ : S43)] : List (S43))).bind fun y158 => ((some (l0.drop (x8_3 : Int).toNat : List (S43))).bind fun y161 => (if y158.length + y161.length < 5864062014805 then (some ((y158 ++ y161), x7_2, true)) else (none)))) else (none))) else (none)) = some (r1, r2, r3) := by first | (rw [hy151]; with_reducible exact H) | (have H2_ := (Option.bind_some _ _).symm.trans H; rw [hy151]; with_reducible exact H2_) | (have H2_ := (Option.bind_some _ _).symm.trans H; with_reducible exact H2_) | with_reducible exact H | (rw [hy151]; exact H) | exact H
            have Ny151 := Aside0.mk hy151
            clear hy151
            obtain ⟨c25, H⟩ := ifS H
            have LMc25 := Aside0.mk c25
            clear c25
            obtain ⟨y155, hy155⟩ : ∃ y_ : List (S43), y_ = (y148 ++ y151) := ⟨_, rfl⟩
            replace H : (if y155.length < 5864062014805 then ((some (y155 ++ [(⟨x7_2, a1, false⟩ : S43)] : List (S43))).bind fun y158 => ((some (l0.drop (x8_3 : Int).toNat : List (S43))).bind fun y161 => (if y158.length + y161.length < 5864062014805 then (some ((y158 ++ y161), x7_2, true)) else (none)))) else (none)) = some (r1, r2, r3) := by first | (rw [hy155]; with_reducible exact H) | (have H2_ := (Option.bind_some _ _).symm.trans H; rw [hy155]; with_reducible exact H2_) | (have H2_ := (Option.bind_some _ _).symm.trans H; with_reducible exact H2_) | with_reducible exact H | (rw [hy155]; exact H) | exact H
            have Ny155 := Aside0.mk hy155
            clear hy155
            obtain ⟨c26, H⟩ := ifS H
            have LMc26 := Aside0.mk c26
            clear c26
            obtain ⟨y158, hy158⟩ : ∃ y_ : List (S43), y_ = (y155 ++ [(⟨x7_2, a1, false⟩ : S43)]) := ⟨_, rfl⟩
            replace H : ((some (l0.drop (x8_3 : Int).toNat : List (S43))).bind fun y161 => (if y158.length + y161.length < 5864062014805 then (some ((y158 ++ y161), x7_2, true)) else (none))) = some (r1, r2, r3) := by first | (rw [hy158]; with_reducible exact H) | (have H2_ := (Option.bind_some _ _).symm.trans H; rw [hy158]; with_reducible exact H2_) | (have H2_ := (Option.bind_some _ _).symm.trans H; with_reducible exact H2_) | with_reducible exact H | (rw [hy158]; exact H) | exact H
            have Ny158 := Aside0.mk hy158
            clear hy158
            have c27b0 := eq_true (zD : 0 ≤ x8_3)
            have c28b0 := eq_true (zD : x8_3 ≤ (l0.length : Int))
            obtain ⟨y161, hy161⟩ : ∃ y_ : List (S43), y_ = (l0.drop (x8_3 : Int).toNat) := ⟨_, rfl⟩
            replace H : (if y158.length + y161.length < 5864062014805 then (some ((y158 ++ y161), x7_2, true)) else (none)) = some (r1, r2, r3) := by first | (rw [hy161]; with_reducible exact H) | (have H2_ := (Option.bind_some _ _).symm.trans H; rw [hy161]; with_reducible exact H2_) | (have H2_ := (Option.bind_some _ _).symm.trans H; with_reducible exact H2_) | with_reducible exact H | (rw [hy161]; exact H) | exact H
            have Ny161 := Aside0.mk hy161
            clear hy161
            obtain ⟨c29, H⟩ := ifS H
            have LMc29 := Aside0.mk c29
            clear c29
            obtain ⟨y165, hy165⟩ : ∃ y_ : List (S43), y_ = (y158 ++ y161) := ⟨_, rfl⟩
            replace H : (some (y165, x7_2, true)) = some (r1, r2, r3) := by first | (rw [hy165]; with_reducible exact H) | (have H2_ := (Option.bind_some _ _).symm.trans H; rw [hy165]; with_reducible exact H2_) | (have H2_ := (Option.bind_some _ _).symm.trans H; with_reducible exact H2_) | with_reducible exact H | (rw [hy165]; exact H) | exact H
            have Ny165 := Aside0.mk hy165
            clear hy165
            simp only [Option.some.injEq, Prod.mk.injEq] at H
            obtain ⟨rfl, rfl, rfl⟩ := H
            have p147 : 0 ≤ (x8_3 : Int) := zD
            have q147 : x8_3 < (l0.length : Int) := zD
            obtain ⟨ad147, e147, hx147_0, hx147_1, hx147_2⟩ := at_T43 HR0.out x8_3 p147 q147
            cases e147
            replace hx147_0 := hL HB hx147_0
            replace hx147_1 := hL HB hx147_1
            replace hx147_2 := hL HB hx147_2
            replace p147 := eq_true p147
            replace q147 := eq_true q147
            go_wp2_with (first | ((with_reducible refine gate_dst (N := 51) rfl ?_); (try (refine gate_guard (by rfl) ?_; dsimp only)); refine Kd.R_lit k43 _ 43 ?hg (N := 51) ?hd (xs := ([] : List (S43))) (inner := []) (ok := fun _ => True) (okp := fun _ => True) ?hr ?hp (fun _ hk => hk) trivial (Below.refl _ _) (Nat.le_refl _) (by simp) ?_; (case hd => rfl); (case hg => rfl); (case hr => first | (go_simp; done) | (go_simp; rfl)); (case hp => exact (Reps.none _ _)); intro v149 w30 ho31 hb hg_ hnew_; clear hg_ hnew_; (first | rw [← Ny148.out] at ho31 | (simp only [Int.reduceToNat] at ho31; rw [← Ny148.out] at ho31)); have HO150 := Aside0.mk (Kd.R_lower ho31 (below_size (zB HB))); replace HB := bS HB hb; clear hb ho31; have q32 : (x8_3 : Int) ≤ ((l0.length : Int) : Int) := zD; obtain ⟨i032, hi032, _, hsz32, _⟩ := info_parts info43; have hroom32 : l0.length ≤ c0 := HC0.out; have hC32 : Kd.C k43 _ (some ad147) l0.length l0 := HR0.out; have hcut32 := cut_to (P := Try.prog) 24 43 .i64 Try.underlying24 hi032 (some ad147) l0.length c0 x8_3 (zD) q32 hroom32; have hr32 := Kd.C_take (m := (x8_3 : Int).toNat) hC32 (by omega); have hy32 : y151.length = (x8_3 : Int).toNat := (by rw [Ny151.out, List.length_take]; omega); rw [← Ny151.out] at hr32; rw [← hy32] at hcut32; have HR154 := Aside0.mk hr32; have HC154 := Aside0.mk (show y151.length ≤ c0 from by omega); clear hr32 hC32 hroom32 hi032 hsz32; have KY32 := Aside0.mk hy32; clear hy32; replace q32 := eq_true q32) | ((with_reducible refine gate_builtin (b := .append) (xs := #[.tmp 51, .tmp 54]) rfl ?_); (try (refine gate_guard (by rfl) ?_; dsimp only)); at_builtin; refine Kd.R_append_rows k43 (w0 := w) w.heap.size rfl (.tmp 51) (.tmp 54) 24 43 (.agg #[(.int .i64 0), (.int .i64 0), (.bool false)]) 24 rfl Try.underlying24 info43 rfl (by decide) (by omega) v149 y148 y151 _ _ _ (fun _ => True) (fun _ => False) rfl rfl ?aO ?aR (fun _ _ h => h) (fun _ h => h.elim) ?aF ?aB ?aS ?aL ?_; (case aR => repeat (first | exact (Kd.C_below HR154.out HB.out) | (with_reducible refine Kd.C_alloc ?_ _) | (with_reducible refine Kd.C_drewN ?_ _) | (with_reducible refine Kd.C_drew ?_))); (case aB => exact (zB HB)); (case aF => exact (fun _ _ => trivial)); (case aO => exact (zR HO150)); (case aS => exact (below_size (zB HB))); (case aL => have := LMc25.out; omega); intro v156 w33 ho hb hg hat; rw [← Ny155.out] at ho; replace HB := Aside0.mk (hb); have HO157 := Aside0.mk (ho); clear HO150; clear ho hb hg hat) | ((with_reducible refine gate_builtin (b := .append) (xs := #[.tmp 55, .tmp 59]) rfl ?_); (try (refine gate_guard (by rfl) ?_; dsimp only)); at_builtin; refine Kd.R_append k43 (w0 := w) w.heap.size rfl (.tmp 55) (.tmp 59) 24 43 (.agg #[(.int .i64 0), (.int .i64 0), (.bool false)]) 24 rfl Try.underlying24 info43 rfl (by decide) (by omega) v156 y155 (⟨x7_2, a1, false⟩ : S43) [.int .i64 x7_2, .int .i64 a1, .bool false] (fun _ => True) (fun _ => False) rfl rfl ?aP (fun _ hk => hk.elim) ?aF ?aO ?aB ?aS ?aL ?_; (case aP => exact k43_mkM _ _ _ (⟨x7_2, a1, false⟩ : S43)); (case aB => exact (zB HB)); (case aF => exact (fun _ _ => trivial)); (case aO => exact (zR HO157)); (case aS => exact (below_size (zB HB))); (case aL => have := LMc26.out; omega); intro v159 w34 ho hb hg hat; rw [← Ny158.out] at ho; replace HB := Aside0.mk (hb); have HO160 := Aside0.mk (ho); clear HO157; clear ho hb hg hat; have q35 : (x8_3 : Int) ≤ ((l0.length : Int) : Int) := zD; obtain ⟨i035, hi035, _, hsz35, _⟩ := info_parts info43; have hroom35 : l0.length ≤ c0 := HC0.out; have hC35 : Kd.C k43 _ (some ad147) l0.length l0 := HR0.out; have q035 : (0 : Int) ≤ (x8_3 : Int) := zD; have hcut35 := cut_from (P := Try.prog) 24 43 .i64 Try.underlying24 hi035 3 hsz35 (some ad147) l0.length c0 x8_3 q035 q35; have hr35 := Kd.C_drop (m := (x8_3 : Int).toNat) (c := c0) hC35 (by omega) hroom35; obtain ⟨A35, hA35⟩ : ∃ A1, A1 = (if c0 = (x8_3 : Int).toNat then (some ad147) else ((some ad147) : Option Addr).map (·.add ((x8_3 : Int).toNat * 3))) := ⟨_, rfl⟩; obtain ⟨c35, hc35⟩ : ∃ c1, c1 = c0 - (x8_3 : Int).toNat := ⟨_, rfl⟩; have hy35 : y161.length = l0.length - (x8_3 : Int).toNat := (by rw [Ny161.out, List.length_drop] <;> omega); rw [show (l0).drop (x8_3 : Int).toNat = y161 from Ny161.out.symm] at hr35; replace hr35 : Kd.C k43 _ A35 y161.length y161 := (by rw [hA35]; exact hr35); rw [← hy35, ← hA35, ← hc35] at hcut35; have HR164 := Aside0.mk hr35; have HC164 := Aside0.mk (show y161.length ≤ c35 from by rw [hy35, hc35]; exact Nat.sub_le_sub_right hroom35 _); clear hr35 hC35 hroom35 hi035 hsz35 hc35; have KY35 := Aside0.mk hy35; have KA35 := Aside0.mk hA35; clear hy35 hA35; replace q35 := eq_true q35) | ((with_reducible refine gate_builtin (b := .append) (xs := #[.tmp 61, .tmp 64]) rfl ?_); (try (refine gate_guard (by rfl) ?_; dsimp only)); at_builtin; refine Kd.R_append_rows k43 (w0 := w) w.heap.size rfl (.tmp 61) (.tmp 64) 24 43 (.agg #[(.int .i64 0), (.int .i64 0), (.bool false)]) 24 rfl Try.underlying24 info43 rfl (by decide) (by omega) v159 y158 y161 _ _ _ (fun _ => True) (fun _ => False) rfl rfl ?aO ?aR (fun _ _ h => h) (fun _ h => h.elim) ?aF ?aB ?aS ?aL ?_; (case aR => repeat (first | exact (Kd.C_below HR164.out HB.out) | (with_reducible refine Kd.C_alloc ?_ _) | (with_reducible refine Kd.C_drewN ?_ _) | (with_reducible refine Kd.C_drew ?_))); (case aB => exact (zB HB)); (case aF => exact (fun _ _ => trivial)); (case aO => exact (zR HO160)); (case aS => exact (below_size (zB HB))); (case aL => have := LMc29.out; omega); intro v166 w36 ho hb hg hat; rw [← Ny165.out] at ho; replace HB := Aside0.mk (hb); have HO167 := Aside0.mk (ho); clear HO160; clear ho hb hg hat))
            go_ret3
            exact ⟨_, zE, by (with_reducible repeat (first | apply Kd.R_alloc | apply Kd.R_drewN | apply Kd.R_drew)); exact HO167.out, zB HB⟩
          ·rw [if_neg c20] at H
           have c20b0 : decide (x8_3 < (l0.length : Int)) = false := decide_eq_false c20
           clear c20
           obtain ⟨y168, hy168⟩ : ∃ y_ : List (S43), y_ = (([] : List (S43))) := ⟨_, rfl⟩
           replace H : (if 0 ≤ x8_3 then (if x8_3 ≤ (l0.length : Int) then ((some (l0.take (x8_3 : Int).toNat : List (S43))).bind fun y171 => (if y168.length + y171.length < 5864062014805 then ((some (y168 ++ y171 : List (S43))).bind fun y175 => (if y175.length < 5864062014805 then ((some (y175 ++ [(⟨x7_2, a1, false⟩ : S43)] : List (S43))).bind fun y178 => ((some (l0.drop (x8_3 : Int).toNat : List (S43))).bind fun y181 => (if y178.length + y181.length < 5864062014805 then (some ((y178 ++ y181), x7_2, true)) else (none)))) else (none))) else (none))) else (none)) else (none)) = some (r1, r2, r3) := by first | (rw [hy168]; with_reducible exact H) | (have H2_ := (Option.bind_some _ _).symm.trans H; rw [hy168]; with_reducible exact H2_) | (have H2_ := (Option.bind_some _ _).symm.trans H; with_reducible exact H2_) | with_reducible exact H | (rw [hy168]; exact H) | exact H
           have Ny168 := Aside0.mk hy168
           clear hy168
           by_cases c37 : 0 ≤ x8_3
           ·rw [if_pos c37] at H
            have c37b0 := eq_true c37
            have c37b1 : decide (0 ≤ x8_3) = true := decide_eq_true c37
            clear c37
            obtain ⟨c38, H⟩ := ifS H
            have c38b0 := eq_true c38
            have c38b1 : decide (x8_3 ≤ (l0.length : Int)) = true := decide_eq_true c38
            clear c38
            obtain ⟨y171, hy171⟩ : ∃ y_ : List (S43), y_ = (l0.take (x8_3 : Int).toNat) := ⟨_, rfl⟩
            replace H : (if y168.length + y171.length < 5864062014805 then ((some (y168 ++ y171 : List (S43))).bind fun y175 => (if y175.length < 5864062014805 then ((some (y175 ++ [(⟨x7_2, a1, false⟩ : S43)] : List (S43))).bind fun y178 => ((some (l0.drop (x8_3 : Int).toNat : List (S43))).bind fun y181 => (if y178.length + y181.length < 5864062014805 then (some ((y178 ++ y181), x7_2, true)) else (none)))) else (none))) else (none)) = some (r1, r2, r3) := by first | (rw [hy171]; with_reducible exact H) | (have H2_ := (Option.bind_some _ _).symm.trans H; rw [hy171]; with_reducible exact H2_) | (have H2_ := (Option.bind_some _ _).symm.trans H; with_reducible exact H2_) | with_reducible exact H | (rw [hy171]; exact H) | exact H
            have Ny171 := Aside0.mk hy171
            clear hy171
            obtain ⟨c39, H⟩ := ifS H
            have LMc39 := Aside0.mk c39
            clear c39
            obtain ⟨y175, hy175⟩ : ∃ y_ : List (S43), y_ = (y168 ++ y171) := ⟨_, rfl⟩
            replace H : (if y175.length < 5864062014805 then ((some (y175 ++ [(⟨x7_2, a1, false⟩ : S43)] : List (S43))).bind fun y178 => ((some (l0.drop (x8_3 : Int).toNat : List (S43))).bind fun y181 => (if y178.length + y181.length < 5864062014805 then (some ((y178 ++ y181), x7_2, true)) else (none)))) else (none)) = some (r1, r2, r3) := by first | (rw [hy175]; with_reducible exact H) | (have H2_ := (Option.bind_some _ _).symm.trans H; rw [hy175]; with_reducible exact H2_) | (have H2_ := (Option.bind_some _ _).symm.trans H; with_reducible exact H2_) | with_reducible exact H | (rw [hy175]; exact H) | exact H
            have Ny175 := Aside0.mk hy175
            clear hy175
            obtain ⟨c40, H⟩ := ifS H
            have LMc40 := Aside0.mk c40
            clear c40
            obtain ⟨y178, hy178⟩ : ∃ y_ : List (S43), y_ = (y175 ++ [(⟨x7_2, a1, false⟩ : S43)]) := ⟨_, rfl⟩
            replace H : ((some (l0.drop (x8_3 : Int).toNat : List (S43))).bind fun y181 => (if y178.length + y181.length < 5864062014805 then (some ((y178 ++ y181), x7_2, true)) else (none))) = some (r1, r2, r3) := by first | (rw [hy178]; with_reducible exact H) | (have H2_ := (Option.bind_some _ _).symm.trans H; rw [hy178]; with_reducible exact H2_) | (have H2_ := (Option.bind_some _ _).symm.trans H; with_reducible exact H2_) | with_reducible exact H | (rw [hy178]; exact H) | exact H
            have Ny178 := Aside0.mk hy178
            clear hy178
            have c41b0 := eq_true (zD : 0 ≤ x8_3)
            have c42b0 := eq_true (zD : x8_3 ≤ (l0.length : Int))
            obtain ⟨y181, hy181⟩ : ∃ y_ : List (S43), y_ = (l0.drop (x8_3 : Int).toNat) := ⟨_, rfl⟩
            replace H : (if y178.length + y181.length < 5864062014805 then (some ((y178 ++ y181), x7_2, true)) else (none)) = some (r1, r2, r3) := by first | (rw [hy181]; with_reducible exact H) | (have H2_ := (Option.bind_some _ _).symm.trans H; rw [hy181]; with_reducible exact H2_) | (have H2_ := (Option.bind_some _ _).symm.trans H; with_reducible exact H2_) | with_reducible exact H | (rw [hy181]; exact H) | exact H
            have Ny181 := Aside0.mk hy181
            clear hy181
            obtain ⟨c43, H⟩ := ifS H
            have LMc43 := Aside0.mk c43
            clear c43
            obtain ⟨y185, hy185⟩ : ∃ y_ : List (S43), y_ = (y178 ++ y181) := ⟨_, rfl⟩
            replace H : (some (y185, x7_2, true)) = some (r1, r2, r3) := by first | (rw [hy185]; with_reducible exact H) | (have H2_ := (Option.bind_some _ _).symm.trans H; rw [hy185]; with_reducible exact H2_) | (have H2_ := (Option.bind_some _ _).symm.trans H; with_reducible exact H2_) | with_reducible exact H | (rw [hy185]; exact H) | exact H
            have Ny185 := Aside0.mk hy185
            clear hy185
            simp only [Option.some.injEq, Prod.mk.injEq] at H
            obtain ⟨rfl, rfl, rfl⟩ := H
            go_wp2_with (first | ((with_reducible refine gate_dst (N := 51) rfl ?_); (try (refine gate_guard (by rfl) ?_; dsimp only)); refine Kd.R_lit k43 _ 43 ?hg (N := 51) ?hd (xs := ([] : List (S43))) (inner := []) (ok := fun _ => True) (okp := fun _ => True) ?hr ?hp (fun _ hk => hk) trivial (Below.refl _ _) (Nat.le_refl _) (by simp) ?_; (case hd => rfl); (case hg => rfl); (case hr => first | (go_simp; done) | (go_simp; rfl)); (case hp => exact (Reps.none _ _)); intro v169 w44 ho45 hb hg_ hnew_; clear hg_ hnew_; (first | rw [← Ny168.out] at ho45 | (simp only [Int.reduceToNat] at ho45; rw [← Ny168.out] at ho45)); have HO170 := Aside0.mk (Kd.R_lower ho45 (below_size (zB HB))); replace HB := bS HB hb; clear hb ho45; have q46 : (x8_3 : Int) ≤ ((l0.length : Int) : Int) := zD; obtain ⟨i046, hi046, _, hsz46, _⟩ := info_parts info43; have hroom46 : l0.length ≤ c0 := HC0.out; have hC46 : Kd.C k43 _ A0 l0.length l0 := HR0.out; have hcut46 := cut_to (P := Try.prog) 24 43 .i64 Try.underlying24 hi046 A0 l0.length c0 x8_3 (zD) q46 hroom46; have hr46 := Kd.C_take (m := (x8_3 : Int).toNat) hC46 (by omega); have hy46 : y171.length = (x8_3 : Int).toNat := (by rw [Ny171.out, List.length_take]; omega); rw [← Ny171.out] at hr46; rw [← hy46] at hcut46; have HR174 := Aside0.mk hr46; have HC174 := Aside0.mk (show y171.length ≤ c0 from by omega); clear hr46 hC46 hroom46 hi046 hsz46; have KY46 := Aside0.mk hy46; clear hy46; replace q46 := eq_true q46) | ((with_reducible refine gate_builtin (b := .append) (xs := #[.tmp 51, .tmp 54]) rfl ?_); (try (refine gate_guard (by rfl) ?_; dsimp only)); at_builtin; refine Kd.R_append_rows k43 (w0 := w) w.heap.size rfl (.tmp 51) (.tmp 54) 24 43 (.agg #[(.int .i64 0), (.int .i64 0), (.bool false)]) 24 rfl Try.underlying24 info43 rfl (by decide) (by omega) v169 y168 y171 _ _ _ (fun _ => True) (fun _ => False) rfl rfl ?aO ?aR (fun _ _ h => h) (fun _ h => h.elim) ?aF ?aB ?aS ?aL ?_; (case aR => repeat (first | exact (Kd.C_below HR174.out HB.out) | (with_reducible refine Kd.C_alloc ?_ _) | (with_reducible refine Kd.C_drewN ?_ _) | (with_reducible refine Kd.C_drew ?_))); (case aB => exact (zB HB)); (case aF => exact (fun _ _ => trivial)); (case aO => exact (zR HO170)); (case aS => exact (below_size (zB HB))); (case aL => have := LMc39.out; omega); intro v176 w47 ho hb hg hat; rw [← Ny175.out] at ho; replace HB := Aside0.mk (hb); have HO177 := Aside0.mk (ho); clear HO170; clear ho hb hg hat) | ((with_reducible refine gate_builtin (b := .append) (xs := #[.tmp 55, .tmp 59]) rfl ?_); (try (refine gate_guard (by rfl) ?_; dsimp only)); at_builtin; refine Kd.R_append k43 (w0 := w) w.heap.size rfl (.tmp 55) (.tmp 59) 24 43 (.agg #[(.int .i64 0), (.int .i64 0), (.bool false)]) 24 rfl Try.underlying24 info43 rfl (by decide) (by omega) v176 y175 (⟨x7_2, a1, false⟩ : S43) [.int .i64 x7_2, .int .i64 a1, .bool false] (fun _ => True) (fun _ => False) rfl rfl ?aP (fun _ hk => hk.elim) ?aF ?aO ?aB ?aS ?aL ?_; (case aP => exact k43_mkM _ _ _ (⟨x7_2, a1, false⟩ : S43)); (case aB => exact (zB HB)); (case aF => exact (fun _ _ => trivial)); (case aO => exact (zR HO177)); (case aS => exact (below_size (zB HB))); (case aL => have := LMc40.out; omega); intro v179 w48 ho hb hg hat; rw [← Ny178.out] at ho; replace HB := Aside0.mk (hb); have HO180 := Aside0.mk (ho); clear HO177; clear ho hb hg hat; have q49 : (x8_3 : Int) ≤ ((l0.length : Int) : Int) := zD; obtain ⟨i049, hi049, _, hsz49, _⟩ := info_parts info43; have hroom49 : l0.length ≤ c0 := HC0.out; have hC49 : Kd.C k43 _ A0 l0.length l0 := HR0.out; have q049 : (0 : Int) ≤ (x8_3 : Int) := zD; have hcut49 := cut_from (P := Try.prog) 24 43 .i64 Try.underlying24 hi049 3 hsz49 A0 l0.length c0 x8_3 q049 q49; have hr49 := Kd.C_drop (m := (x8_3 : Int).toNat) (c := c0) hC49 (by omega) hroom49; obtain ⟨A49, hA49⟩ : ∃ A1, A1 = (if c0 = (x8_3 : Int).toNat then A0 else (A0 : Option Addr).map (·.add ((x8_3 : Int).toNat * 3))) := ⟨_, rfl⟩; obtain ⟨c49, hc49⟩ : ∃ c1, c1 = c0 - (x8_3 : Int).toNat := ⟨_, rfl⟩; have hy49 : y181.length = l0.length - (x8_3 : Int).toNat := (by rw [Ny181.out, List.length_drop] <;> omega); rw [show (l0).drop (x8_3 : Int).toNat = y181 from Ny181.out.symm] at hr49; replace hr49 : Kd.C k43 _ A49 y181.length y181 := (by rw [hA49]; exact hr49); rw [← hy49, ← hA49, ← hc49] at hcut49; have HR184 := Aside0.mk hr49; have HC184 := Aside0.mk (show y181.length ≤ c49 from by rw [hy49, hc49]; exact Nat.sub_le_sub_right hroom49 _); clear hr49 hC49 hroom49 hi049 hsz49 hc49; have KY49 := Aside0.mk hy49; have KA49 := Aside0.mk hA49; clear hy49 hA49; replace q49 := eq_true q49) | ((with_reducible refine gate_builtin (b := .append) (xs := #[.tmp 61, .tmp 64]) rfl ?_); (try (refine gate_guard (by rfl) ?_; dsimp only)); at_builtin; refine Kd.R_append_rows k43 (w0 := w) w.heap.size rfl (.tmp 61) (.tmp 64) 24 43 (.agg #[(.int .i64 0), (.int .i64 0), (.bool false)]) 24 rfl Try.underlying24 info43 rfl (by decide) (by omega) v179 y178 y181 _ _ _ (fun _ => True) (fun _ => False) rfl rfl ?aO ?aR (fun _ _ h => h) (fun _ h => h.elim) ?aF ?aB ?aS ?aL ?_; (case aR => repeat (first | exact (Kd.C_below HR184.out HB.out) | (with_reducible refine Kd.C_alloc ?_ _) | (with_reducible refine Kd.C_drewN ?_ _) | (with_reducible refine Kd.C_drew ?_))); (case aB => exact (zB HB)); (case aF => exact (fun _ _ => trivial)); (case aO => exact (zR HO180)); (case aS => exact (below_size (zB HB))); (case aL => have := LMc43.out; omega); intro v186 w50 ho hb hg hat; rw [← Ny185.out] at ho; replace HB := Aside0.mk (hb); have HO187 := Aside0.mk (ho); clear HO180; clear ho hb hg hat))
            go_ret3
            exact ⟨_, zE, by (with_reducible repeat (first | apply Kd.R_alloc | apply Kd.R_drewN | apply Kd.R_drew)); exact HO187.out, zB HB⟩
           ·rw [if_neg c37] at H
            exact absurd H (by simp)

/-! ### spec_l1Byte: function 42 -/
def spec_l1Byte.f (s0_0 : List Int) (s0_1 : Int) (s0_2 : Int) : Option (Int × Int × Int) := if s0_1 < (s0_0.length : Int) then (if 0 ≤ s0_1 then (some (Go.bits .and .i64 (wrap64 ((Go.bits .and .i64 (Go.bits .xor .i64 ((wrap64 ((wrap64 (s0_2 * 6364136223846793005)) + 1442695040888963407)) / 8589934592) ((wrap64 ((wrap64 (s0_2 * 6364136223846793005)) + 1442695040888963407)) / 140737488355328)) 255) + (wrap64 (rd s0_0 s0_1)))) 255, wrap64 (s0_1 + 1), wrap64 ((wrap64 (s0_2 * 6364136223846793005)) + 1442695040888963407))) else (none)) else (some (Go.bits .and .i64 (Go.bits .xor .i64 ((wrap64 ((wrap64 (s0_2 * 6364136223846793005)) + 1442695040888963407)) / 8589934592) ((wrap64 ((wrap64 (s0_2 * 6364136223846793005)) + 1442695040888963407)) / 140737488355328)) 255, s0_1, wrap64 ((wrap64 (s0_2 * 6364136223846793005)) + 1442695040888963407)))
set_option maxHeartbeats 8000000 in
set_option maxRecDepth 100000 in
theorem spec_l1Byte.calls (g : Nat) (s0_0 : List Int) (s0_1 : Int) (s0_2 : Int) (r1 : Int) (r2 : Int) (r3 : Int) (w0 w : World) (hI : IsS63 w0 w g s0_0 s0_1 s0_2) (hB : Below w0.heap.size w0 w) (h : spec_l1Byte.f s0_0 s0_1 s0_2 = some (r1, r2, r3)) :
  Calls Try.prog 42 #[.pointer (some ⟨g, 0, none⟩)] w fun e w' => e = .returned (.int .i64 r1) ∧ IsS63 w0 w' g s0_0 r2 r3 ∧ Below w0.heap.size w0 w' ∧ KeepBut w w' g none := by
 have HI0 := Aside0.mk hI
 have HK := Aside0.mk (KeepBut.refl w g none)
 have HL := Aside0.mk hB.size
 clear hI
 have HW0 := Aside0.mk hB.size
 have HB := Aside0.mk hB
 clear hB
 have H : (if s0_1 < (s0_0.length : Int) then (if 0 ≤ s0_1 then (some (Go.bits .and .i64 (wrap64 ((Go.bits .and .i64 (Go.bits .xor .i64 ((wrap64 ((wrap64 (s0_2 * 6364136223846793005)) + 1442695040888963407)) / 8589934592) ((wrap64 ((wrap64 (s0_2 * 6364136223846793005)) + 1442695040888963407)) / 140737488355328)) 255) + (wrap64 (rd s0_0 s0_1)))) 255, wrap64 (s0_1 + 1), wrap64 ((wrap64 (s0_2 * 6364136223846793005)) + 1442695040888963407))) else (none)) else (some (Go.bits .and .i64 (Go.bits .xor .i64 ((wrap64 ((wrap64 (s0_2 * 6364136223846793005)) + 1442695040888963407)) / 8589934592) ((wrap64 ((wrap64 (s0_2 * 6364136223846793005)) + 1442695040888963407)) / 140737488355328)) 255, s0_1, wrap64 ((wrap64 (s0_2 * 6364136223846793005)) + 1442695040888963407)))) = some (r1, r2, r3) := h
 clear h
 by_cases c2 : s0_1 < (s0_0.length : Int)
 ·rw [if_pos c2] at H
  have c2b0 : decide (s0_1 < (s0_0.length : Int)) = true := decide_eq_true c2
  clear c2
  obtain ⟨c3, H⟩ := ifS H
  have c3b0 : decide (0 ≤ s0_1) = true := decide_eq_true c3
  clear c3
  simp only [Option.some.injEq, Prod.mk.injEq] at H
  obtain ⟨rfl, rfl, rfl⟩ := H
  obtain ⟨ASz4_0, cSz4_0, HGz4, hgz4, HSz4_0⟩ := HI0.out
  have hcz4_0 := cellS63_0 HGz4
  have hcz4_1 := cellS63_1 HGz4
  have hcz4_2 := cellS63_2 HGz4
  have hfz4_1 := blk_frozen HGz4 1
  have hfz4_2 := blk_frozen HGz4 2
  clear HGz4 hgz4
  have p188 : 0 ≤ (s0_1 : Int) := zD
  have q188 : s0_1 < (s0_0.length : Int) := zD
  obtain ⟨ad188, e188, hx188_0⟩ := Kd.at_int HSz4_0 s0_1 p188 q188
  cases e188
  have hn188_0 : ad188.block ≠ g := Nat.ne_of_lt (Nat.lt_of_lt_of_le (by have := World.block_lt_of_cell? _ _ hx188_0; first | rwa [add_block] at this | exact this) (IsS63.ge HI0.out))
  replace hx188_0 := pw_cell_below HB.out hx188_0
  replace hx188_0 := (cell_far (p := ⟨g, 2, none⟩) (by first | (rw [add_block]; exact hn188_0) | (show (Addr.add _ _).block ≠ _; rw [add_block]; exact hn188_0) | exact hn188_0) (.int .i64 (wrap64 ((wrap64 (s0_2 * 6364136223846793005)) + 1442695040888963407)))).trans hx188_0
  (try have hy188_0 := fun (n_ : Nat) => (show (((w.drewN n_).setCell ⟨g, 2, none⟩ (.int .i64 (wrap64 ((wrap64 (s0_2 * 6364136223846793005)) + 1442695040888963407))))).cell? _ = some _ from hx188_0))
  clear hn188_0
  replace p188 := eq_true p188
  replace q188 := eq_true q188
  go_enter Try.func42, Try.ntmps42
  go_wp2
  repeat (go_quiet (fail); try go_wp2)
  go_ret
  exact ⟨zE, by repeat (first | (with_reducible first | exact HI0.out | apply IsS63.alloc | apply IsS63.drewN | apply IsS63.drew | apply IsS63.set_1 | apply IsS63.set_2) | exact HI0.out), by repeat (first | (with_reducible first | exact HB.out | apply below_alloc | apply pw_below_drewN | apply below_drew1 | refine below_set ?_ (IsS63.ge HI0.out)) | exact HB.out), zH HK⟩
 ·rw [if_neg c2] at H
  have c2b0 : decide (s0_1 < (s0_0.length : Int)) = false := decide_eq_false c2
  clear c2
  simp only [Option.some.injEq, Prod.mk.injEq] at H
  obtain ⟨rfl, rfl, rfl⟩ := H
  obtain ⟨ASz5_0, cSz5_0, HGz5, hgz5, HSz5_0⟩ := HI0.out
  have hcz5_0 := cellS63_0 HGz5
  have hcz5_1 := cellS63_1 HGz5
  have hcz5_2 := cellS63_2 HGz5
  have hfz5_1 := blk_frozen HGz5 1
  have hfz5_2 := blk_frozen HGz5 2
  clear HGz5 hgz5
  go_enter Try.func42, Try.ntmps42
  go_wp2
  repeat (go_quiet (fail); try go_wp2)
  go_ret
  exact ⟨zE, by repeat (first | (with_reducible first | exact HI0.out | apply IsS63.alloc | apply IsS63.drewN | apply IsS63.drew | apply IsS63.set_1 | apply IsS63.set_2) | exact HI0.out), by repeat (first | (with_reducible first | exact HB.out | apply below_alloc | apply pw_below_drewN | apply below_drew1 | refine below_set ?_ (IsS63.ge HI0.out)) | exact HB.out), zH HK⟩

/-! ### spec_l1Below: function 35 -/
def spec_l1Below.f (s0_0 : List Int) (s0_1 : Int) (s0_2 : Int) (a1 : Int) : Option (Int × Int × Int) := if a1 ≤ 0 then (some (0, s0_1, s0_2)) else (if a1 ≤ 256 then ((spec_l1Byte.f s0_0 s0_1 s0_2).bind fun bt189 => (if a1 = 0 then (none) else (some (Int.tmod bt189.1 a1, bt189.2.1, bt189.2.2)))) else ((spec_l1Byte.f s0_0 s0_1 s0_2).bind fun bt192 => ((spec_l1Byte.f s0_0 bt192.2.1 bt192.2.2).bind fun bt195 => ((spec_l1Byte.f s0_0 bt195.2.1 bt195.2.2).bind fun bt198 => (if a1 = 0 then (none) else (some (Int.tmod (wrap64 ((wrap64 ((wrap64 (bt192.1 * 65536)) + (wrap64 (bt195.1 * 256)))) + bt198.1)) a1, bt198.2.1, bt198.2.2)))))))
set_option maxHeartbeats 8000000 in
set_option maxRecDepth 100000 in
theorem spec_l1Below.calls (g : Nat) (s0_0 : List Int) (s0_1 : Int) (s0_2 : Int) (a1 : Int) (r1 : Int) (r2 : Int) (r3 : Int) (w0 w : World) (hI : IsS63 w0 w g s0_0 s0_1 s0_2) (hB : Below w0.heap.size w0 w) (h : spec_l1Below.f s0_0 s0_1 s0_2 a1 = some (r1, r2, r3)) :
  Calls Try.prog 35 #[.pointer (some ⟨g, 0, none⟩), .int .i64 a1] w fun e w' => e = .returned (.int .i64 r1) ∧ IsS63 w0 w' g s0_0 r2 r3 ∧ Below w0.heap.size w0 w' ∧ KeepBut w w' g none := by
 have HI0 := Aside0.mk hI
 have HK := Aside0.mk (KeepBut.refl w g none)
 have HL := Aside0.mk hB.size
 clear hI
 have HW0 := Aside0.mk hB.size
 have HB := Aside0.mk hB
 clear hB
 have H : (if a1 ≤ 0 then (some (0, s0_1, s0_2)) else (if a1 ≤ 256 then ((spec_l1Byte.f s0_0 s0_1 s0_2).bind fun bt189 => (if a1 = 0 then (none) else (some (Int.tmod bt189.1 a1, bt189.2.1, bt189.2.2)))) else ((spec_l1Byte.f s0_0 s0_1 s0_2).bind fun bt192 => ((spec_l1Byte.f s0_0 bt192.2.1 bt192.2.2).bind fun bt195 => ((spec_l1Byte.f s0_0 bt195.2.1 bt195.2.2).bind fun bt198 => (if a1 = 0 then (none) else (some (Int.tmod (wrap64 ((wrap64 ((wrap64 (bt192.1 * 65536)) + (wrap64 (bt195.1 * 256)))) + bt198.1)) a1, bt198.2.1, bt198.2.2)))))))) = some (r1, r2, r3) := h
 clear h
 by_cases c3 : a1 ≤ 0
 ·rw [if_pos c3] at H
  have c3b0 : decide (a1 ≤ 0) = true := decide_eq_true c3
  clear c3
  simp only [Option.some.injEq, Prod.mk.injEq] at H
  obtain ⟨rfl, rfl, rfl⟩ := H
  go_enter Try.func35, Try.ntmps35
  go_wp2
  go_ret
  exact ⟨zE, by repeat (first | (with_reducible first | exact HI0.out | apply IsS63.alloc | apply IsS63.drewN | apply IsS63.drew | apply IsS63.set_1 | apply IsS63.set_2) | exact HI0.out), by repeat (first | (with_reducible first | exact HB.out | apply below_alloc | apply pw_below_drewN | apply below_drew1 | refine below_set ?_ (IsS63.ge HI0.out)) | exact HB.out), zH HK⟩
 ·rw [if_neg c3] at H
  have c3b0 : decide (a1 ≤ 0) = false := decide_eq_false c3
  clear c3
  by_cases c4 : a1 ≤ 256
  ·rw [if_pos c4] at H
   have c4b0 : decide (a1 ≤ 256) = true := decide_eq_true c4
   clear c4
   replace H := Option.bind_eq_some_iff.mp H
   obtain ⟨⟨t189, t190, t191⟩, A50, H⟩ := H
   replace H : (if a1 = 0 then (none) else (some (Int.tmod t189 a1, t190, t191))) = some (r1, r2, r3) := H
   have A5 := Aside0.mk A50
   clear A50
   obtain ⟨c6, H⟩ := ifN H
   have c6b0 : (a1 == 0) = false := beq_eq_false_iff_ne.mpr c6
   have c6b1 : (a1 != 0) = true := bne_iff_ne.mpr c6
   simp only [Option.some.injEq, Prod.mk.injEq] at H
   obtain ⟨rfl, rfl, rfl⟩ := H
   go_enter Try.func35, Try.ntmps35
   go_wp2_with (first | ((with_reducible refine gate_callee (f := 42) rfl ?_); refine goesL_ (some 13) rfl rfl Try.func42 (by kernel_rfl) rfl #[.pointer (some ⟨g, 0, none⟩)] rfl zG ?_; (with_reducible refine (spec_l1Byte.calls g s0_0 s0_1 s0_2 t189 t190 t191 w0 _ ?side1 ?side2 A5.out).mono ?_); (case side1 => repeat (first | (with_reducible first | exact HI0.out | apply IsS63.alloc | apply IsS63.drewN | apply IsS63.drew | apply IsS63.set_1 | apply IsS63.set_2) | exact HI0.out)); (case side2 => repeat (first | (with_reducible first | exact HB.out | apply below_alloc | apply pw_below_drewN | apply below_drew1 | refine below_set ?_ (IsS63.ge HI0.out)) | exact HB.out)); rintro e w7 ⟨rfl, hi, hb, hk⟩; refine ⟨_, rfl, ?_⟩; replace HK := Aside0.mk (KeepBut.trans (zH HK) hk (.inl rfl)); replace HB := Aside0.mk (hb); replace HI0 := Aside0.mk (hi); (try clear hb)))
   go_ret
   exact ⟨zE, by repeat (first | (with_reducible first | exact HI0.out | apply IsS63.alloc | apply IsS63.drewN | apply IsS63.drew | apply IsS63.set_1 | apply IsS63.set_2) | exact HI0.out), by repeat (first | (with_reducible first | exact HB.out | apply below_alloc | apply pw_below_drewN | apply below_drew1 | refine below_set ?_ (IsS63.ge HI0.out)) | exact HB.out), zH HK⟩
  ·rw [if_neg c4] at H
   have c4b0 : decide (a1 ≤ 256) = false := decide_eq_false c4
   clear c4
   replace H := Option.bind_eq_some_iff.mp H
   obtain ⟨⟨t192, t193, t194⟩, A80, H⟩ := H
   replace H : ((spec_l1Byte.f s0_0 t193 t194).bind fun bt195 => ((spec_l1Byte.f s0_0 bt195.2.1 bt195.2.2).bind fun bt198 => (if a1 = 0 then (none) else (some (Int.tmod (wrap64 ((wrap64 ((wrap64 (t192 * 65536)) + (wrap64 (bt195.1 * 256)))) + bt198.1)) a1, bt198.2.1, bt198.2.2))))) = some (r1, r2, r3) := H
   have A8 := Aside0.mk A80
   clear A80
   replace H := Option.bind_eq_some_iff.mp H
   obtain ⟨⟨t195, t196, t197⟩, A90, H⟩ := H
   replace H : ((spec_l1Byte.f s0_0 t196 t197).bind fun bt198 => (if a1 = 0 then (none) else (some (Int.tmod (wrap64 ((wrap64 ((wrap64 (t192 * 65536)) + (wrap64 (t195 * 256)))) + bt198.1)) a1, bt198.2.1, bt198.2.2)))) = some (r1, r2, r3) := H
   have A9 := Aside0.mk A90
   clear A90
   replace H := Option.bind_eq_some_iff.mp H
   obtain ⟨⟨t198, t199, t200⟩, A100, H⟩ := H
   replace H : (if a1 = 0 then (none) else (some (Int.tmod (wrap64 ((wrap64 ((wrap64 (t192 * 65536)) + (wrap64 (t195 * 256)))) + t198)) a1, t199, t200))) = some (r1, r2, r3) := H
   have A10 := Aside0.mk A100
   clear A100
   obtain ⟨c11, H⟩ := ifN H
   have c11b0 : (a1 == 0) = false := beq_eq_false_iff_ne.mpr c11
   have c11b1 : (a1 != 0) = true := bne_iff_ne.mpr c11
   simp only [Option.some.injEq, Prod.mk.injEq] at H
   obtain ⟨rfl, rfl, rfl⟩ := H
   go_enter Try.func35, Try.ntmps35
   go_wp2_with (first | ((with_reducible refine gate_callee (f := 42) rfl ?_); refine goesL_ (some 17) rfl rfl Try.func42 (by kernel_rfl) rfl #[.pointer (some ⟨g, 0, none⟩)] rfl zG ?_; (with_reducible refine (spec_l1Byte.calls g s0_0 s0_1 s0_2 t192 t193 t194 w0 _ ?side1 ?side2 A8.out).mono ?_); (case side1 => repeat (first | (with_reducible first | exact HI0.out | apply IsS63.alloc | apply IsS63.drewN | apply IsS63.drew | apply IsS63.set_1 | apply IsS63.set_2) | exact HI0.out)); (case side2 => repeat (first | (with_reducible first | exact HB.out | apply below_alloc | apply pw_below_drewN | apply below_drew1 | refine below_set ?_ (IsS63.ge HI0.out)) | exact HB.out)); rintro e w12 ⟨rfl, hi, hb, hk⟩; refine ⟨_, rfl, ?_⟩; replace HK := Aside0.mk (KeepBut.trans (zH HK) hk (.inl rfl)); replace HB := Aside0.mk (hb); replace HI0 := Aside0.mk (hi); (try clear hb)) | ((with_reducible refine gate_callee (f := 42) rfl ?_); refine goesL_ (some 19) rfl rfl Try.func42 (by kernel_rfl) rfl #[.pointer (some ⟨g, 0, none⟩)] rfl zG ?_; (with_reducible refine (spec_l1Byte.calls g s0_0 t193 t194 t195 t196 t197 w0 _ ?side1 ?side2 A9.out).mono ?_); (case side1 => repeat (first | (with_reducible first | exact HI0.out | apply IsS63.alloc | apply IsS63.drewN | apply IsS63.drew | apply IsS63.set_1 | apply IsS63.set_2) | exact HI0.out)); (case side2 => repeat (first | (with_reducible first | exact HB.out | apply below_alloc | apply pw_below_drewN | apply below_drew1 | refine below_set ?_ (IsS63.ge HI0.out)) | exact HB.out)); rintro e w13 ⟨rfl, hi, hb, hk⟩; refine ⟨_, rfl, ?_⟩; replace HK := Aside0.mk (KeepBut.trans (zH HK) hk (.inl rfl)); replace HB := Aside0.mk (hb); replace HI0 := Aside0.mk (hi); (try clear hb)) | ((with_reducible refine gate_callee (f := 42) rfl ?_); refine goesL_ (some 21) rfl rfl Try.func42 (by kernel_rfl) rfl #[.pointer (some ⟨g, 0, none⟩)] rfl zG ?_; (with_reducible refine (spec_l1Byte.calls g s0_0 t196 t197 t198 t199 t200 w0 _ ?side1 ?side2 A10.out).mono ?_); (case side1 => repeat (first | (with_reducible first | exact HI0.out | apply IsS63.alloc | apply IsS63.drewN | apply IsS63.drew | apply IsS63.set_1 | apply IsS63.set_2) | exact HI0.out)); (case side2 => repeat (first | (with_reducible first | exact HB.out | apply below_alloc | apply pw_below_drewN | apply below_drew1 | refine below_set ?_ (IsS63.ge HI0.out)) | exact HB.out)); rintro e w14 ⟨rfl, hi, hb, hk⟩; refine ⟨_, rfl, ?_⟩; replace HK := Aside0.mk (KeepBut.trans (zH HK) hk (.inl rfl)); replace HB := Aside0.mk (hb); replace HI0 := Aside0.mk (hi); (try clear hb)))
   go_ret
   exact ⟨zE, by repeat (first | (with_reducible first | exact HI0.out | apply IsS63.alloc | apply IsS63.drewN | apply IsS63.drew | apply IsS63.set_1 | apply IsS63.set_2) | exact HI0.out), by repeat (first | (with_reducible first | exact HB.out | apply below_alloc | apply pw_below_drewN | apply below_drew1 | refine below_set ?_ (IsS63.ge HI0.out)) | exact HB.out), zH HK⟩

/-! ### spec_l1Once: function 53 -/
def spec_l1Once.f (s0_0 : List Int) (s0_1 : Int) (s0_2 : Int) (a1 : Int) : Option (Bool × Int × Int) := (spec_l1Below.f s0_0 s0_1 s0_2 a1).bind fun bt201 => (some ((bt201.1 == 0), bt201.2.1, bt201.2.2))
set_option maxHeartbeats 8000000 in
set_option maxRecDepth 100000 in
theorem spec_l1Once.calls (g : Nat) (s0_0 : List Int) (s0_1 : Int) (s0_2 : Int) (a1 : Int) (r1 : Bool) (r2 : Int) (r3 : Int) (w0 w : World) (hI : IsS63 w0 w g s0_0 s0_1 s0_2) (hB : Below w0.heap.size w0 w) (h : spec_l1Once.f s0_0 s0_1 s0_2 a1 = some (r1, r2, r3)) :
  Calls Try.prog 53 #[.pointer (some ⟨g, 0, none⟩), .int .i64 a1] w fun e w' => e = .returned (.bool r1) ∧ IsS63 w0 w' g s0_0 r2 r3 ∧ Below w0.heap.size w0 w' ∧ KeepBut w w' g none := by
 have HI0 := Aside0.mk hI
 have HK := Aside0.mk (KeepBut.refl w g none)
 have HL := Aside0.mk hB.size
 clear hI
 have HW0 := Aside0.mk hB.size
 have HB := Aside0.mk hB
 clear hB
 have H : ((spec_l1Below.f s0_0 s0_1 s0_2 a1).bind fun bt201 => (some ((bt201.1 == 0), bt201.2.1, bt201.2.2))) = some (r1, r2, r3) := h
 clear h
 replace H := Option.bind_eq_some_iff.mp H
 obtain ⟨⟨t201, t202, t203⟩, A30, H⟩ := H
 replace H : (some ((t201 == 0), t202, t203)) = some (r1, r2, r3) := H
 have A3 := Aside0.mk A30
 clear A30
 simp only [Option.some.injEq, Prod.mk.injEq] at H
 obtain ⟨rfl, rfl, rfl⟩ := H
 go_enter Try.func53, Try.ntmps53
 go_wp2_with (first | ((with_reducible refine gate_callee (f := 35) rfl ?_); refine goesL_ (some 7) rfl rfl Try.func35 (by kernel_rfl) rfl #[.pointer (some ⟨g, 0, none⟩), .int .i64 a1] rfl zG ?_; (with_reducible refine (spec_l1Below.calls g s0_0 s0_1 s0_2 a1 t201 t202 t203 w0 _ ?side1 ?side2 A3.out).mono ?_); (case side1 => repeat (first | (with_reducible first | exact HI0.out | apply IsS63.alloc | apply IsS63.drewN | apply IsS63.drew | apply IsS63.set_1 | apply IsS63.set_2) | exact HI0.out)); (case side2 => repeat (first | (with_reducible first | exact HB.out | apply below_alloc | apply pw_below_drewN | apply below_drew1 | refine below_set ?_ (IsS63.ge HI0.out)) | exact HB.out)); rintro e w4 ⟨rfl, hi, hb, hk⟩; refine ⟨_, rfl, ?_⟩; replace HK := Aside0.mk (KeepBut.trans (zH HK) hk (.inl rfl)); replace HB := Aside0.mk (hb); replace HI0 := Aside0.mk (hi); (try clear hb)))
 go_ret
 exact ⟨zE, by repeat (first | (with_reducible first | exact HI0.out | apply IsS63.alloc | apply IsS63.drewN | apply IsS63.drew | apply IsS63.set_1 | apply IsS63.set_2) | exact HI0.out), by repeat (first | (with_reducible first | exact HB.out | apply below_alloc | apply pw_below_drewN | apply below_drew1 | refine below_set ?_ (IsS63.ge HI0.out)) | exact HB.out), zH HK⟩

end Go.Proofs.Ytgbfbdeeaogigaa.PFnRegistry
