-- WRITTEN by pp.py, this session's own wrapper around the print; not trusted: Lean checks it
import Derived.Test.YtfibjclnaeocbaaPFnChainx0
namespace Go.Proofs.Ytfibjclnaeocbaa.PFnChain
open Go.RowKit Go.Proofs.Ytfibjclnaeocbaa.Hw Go.Proofs.YtfibjclnaeocbaaW.PrintWords Go.Proofs.YtfibjclnaeocbaaW.PrintLast Go.Proofs.YtfibjclnaeocbaaW.PrintMore
attribute [local go_sem] max2_int min2_int max_two min_two max_three min_three max_four min_four   -- for this text's walks alone
set_option linter.unusedVariables false
set_option linter.unusedSimpArgs false
set_option linter.unusedSectionVars false

/-! ### laws_big: function 5 -/
def laws_big.f (l0 : List Int) : Option (Bool) := some (decide ((l0.length : Int) > 1048576))
set_option maxHeartbeats 8000000 in
set_option maxRecDepth 100000 in
theorem laws_big.calls (A0 : Option Addr) (c0 : Nat) (l0 : List Int) (r : Bool) (w : World) (hr0 : Kd.C (Kd.int .u8) w A0 l0.length l0) (hc0 : l0.length ≤ c0) (h : laws_big.f l0 = some r) :
  Calls Try.prog 5 #[.slice A0 l0.length c0] w fun e w' => e = .returned (.bool r) ∧ Drawn0 w w' := by
 have HR0 := Aside0.mk hr0
 have HC0 := Aside0.mk hc0
 clear hr0 hc0
 have H : (some (decide ((l0.length : Int) > 1048576))) = some r := h
 clear h
 obtain rfl := Option.some.inj H
 go_enter Try.func5, Try.ntmps5
 go_wp2
 go_ret
 exact ⟨by first | rfl | (simp; done) | (simp [*]; done), by repeat (first | exact Drawn0.refl _ | apply Drawn0.step)⟩

/-! ### impl_InRange: function 22 -/
def impl_InRange.f (a0 : Int) (a1 : Int) (a2 : Int) : Option (Bool) := if a1 ≤ a0 then (some (decide (a0 ≤ a2))) else (some false)
set_option maxHeartbeats 8000000 in
set_option maxRecDepth 100000 in
theorem impl_InRange.calls (a0 : Int) (a1 : Int) (a2 : Int) (r : Bool) (w : World) (h : impl_InRange.f a0 a1 a2 = some r) :
  Calls Try.prog 22 #[.int .i64 a0, .int .i64 a1, .int .i64 a2] w fun e w' => e = .returned (.bool r) ∧ Drawn0 w w' := by
 have H : (if a1 ≤ a0 then (some (decide (a0 ≤ a2))) else (some false)) = some r := h
 clear h
 by_cases c4 : a1 ≤ a0
 ·rw [if_pos c4] at H
  have c4b0 : decide (a1 ≤ a0) = true := decide_eq_true c4
  clear c4
  obtain rfl := Option.some.inj H
  go_enter Try.func22, Try.ntmps22
  go_wp2
  go_ret
  exact ⟨by first | rfl | (simp; done) | (simp [*]; done), by repeat (first | exact Drawn0.refl _ | apply Drawn0.step)⟩
 ·rw [if_neg c4] at H
  have c4b0 : decide (a1 ≤ a0) = false := decide_eq_false c4
  clear c4
  obtain rfl := Option.some.inj H
  go_enter Try.func22, Try.ntmps22
  go_wp2
  go_ret
  exact ⟨by first | rfl | (simp; done) | (simp [*]; done), by repeat (first | exact Drawn0.refl _ | apply Drawn0.step)⟩

/-! ### impl_IsMachine: function 10 -/
mutual
def impl_IsMachine.j0 : Nat → Bool → Int → List Bool → List (S46) → Option (Bool)
 | 0, _, _, _, _ => none
 | k + 1, x24, x102000, x102001, x102002 => if x24 = true then (some false) else (impl_IsMachine.l0 k x102002 (x102002.length : Int) 0 x102000 x102001 x102002)
def impl_IsMachine.l0 : Nat → List (S46) → Int → Int → Int → List Bool → List (S46) → Option (Bool)
 | 0, _, _, _, _, _, _ => none
 | k + 1, x26, x27, x28, x102000, x102001, x102002 => if x28 < x27 then (if 0 ≤ x28 then (if x28 < (x26.length : Int) then ((impl_InRange.f ((rd_T46 x26 x28).f0) 0 (wrap64 (x102000 - 1))).bind fun t105 => (if t105 = true then ((impl_InRange.f ((rd_T46 x26 x28).f3) 0 (wrap64 (x102000 - 1))).bind fun t106 => (if t106 = true then ((impl_InRange.f ((rd_T46 x26 x28).f2) 0 5).bind fun t107 => (impl_IsMachine.j2 k x28 x26 x27 x28 (!t107) x102000 x102001 x102002 ((rd_T46 x26 x28).f0) ((rd_T46 x26 x28).f1) ((rd_T46 x26 x28).f2) ((rd_T46 x26 x28).f3))) else (impl_IsMachine.j2 k x28 x26 x27 x28 true x102000 x102001 x102002 ((rd_T46 x26 x28).f0) ((rd_T46 x26 x28).f1) ((rd_T46 x26 x28).f2) ((rd_T46 x26 x28).f3)))) else (impl_IsMachine.j2 k x28 x26 x27 x28 true x102000 x102001 x102002 ((rd_T46 x26 x28).f0) ((rd_T46 x26 x28).f1) ((rd_T46 x26 x28).f2) ((rd_T46 x26 x28).f3)))) else (none)) else (none)) else (some true)
def impl_IsMachine.j2 : Nat → Int → List (S46) → Int → Int → Bool → Int → List Bool → List (S46) → Int → Bool → Int → Int → Option (Bool)
 | 0, _, _, _, _, _, _, _, _, _, _, _, _ => none
 | k + 1, x3, x26, x27, x28, x54, x102000, x102001, x102002, x105000, x105001, x105002, x105003 => if x54 = true then (some false) else (if 0 ≤ x3 then (if x3 ≤ (x102002.length : Int) then ((some (x102002.take (x3 : Int).toNat : List (S46))).bind fun y108 => (impl_IsMachine.l1 k x26 x27 x28 y108 (y108.length : Int) 0 x102000 x102001 x102002 x105000 x105001 x105002 x105003)) else (none)) else (none))
def impl_IsMachine.l1 : Nat → List (S46) → Int → Int → List (S46) → Int → Int → Int → List Bool → List (S46) → Int → Bool → Int → Int → Option (Bool)
 | 0, _, _, _, _, _, _, _, _, _, _, _, _, _ => none
 | k + 1, x26, x27, x28, x58, x59, x60, x102000, x102001, x102002, x105000, x105001, x105002, x105003 => if x60 < x59 then (if 0 ≤ x60 then (if x60 < (x58.length : Int) then (if ((rd_T46 x58 x60).f0) = x105000 then (if (((rd_T46 x58 x60).f1) != x105001) = true then (some false) else (if ((rd_T46 x58 x60).f2) = x105002 then (some false) else (impl_IsMachine.l1 k x26 x27 x28 x58 x59 (wrap64 (x60 + 1)) x102000 x102001 x102002 x105000 x105001 x105002 x105003))) else (impl_IsMachine.l1 k x26 x27 x28 x58 x59 (wrap64 (x60 + 1)) x102000 x102001 x102002 x105000 x105001 x105002 x105003)) else (none)) else (none)) else (impl_IsMachine.l0 k x26 x27 (wrap64 (x28 + 1)) x102000 x102001 x102002)
end
def impl_IsMachine.f (k : Nat) (a0_0 : Int) (l0_1 : List Bool) (l0_2 : List (S46)) : Option (Bool) := (impl_InRange.f a0_0 1 6).bind fun t102 => (if t102 = true then (if (l0_1.length : Int) = a0_0 then (impl_IsMachine.j0 k (decide ((l0_2.length : Int) > 12)) a0_0 l0_1 l0_2) else (impl_IsMachine.j0 k true a0_0 l0_1 l0_2)) else (impl_IsMachine.j0 k true a0_0 l0_1 l0_2))
theorem impl_IsMachine.mono_l : ∀ k, (∀ y0 y1 y2 y3, LeO (impl_IsMachine.j0 k y0 y1 y2 y3) (impl_IsMachine.j0 (k + 1) y0 y1 y2 y3)) ∧ (∀ y0 y1 y2 y3 y4 y5, LeO (impl_IsMachine.l0 k y0 y1 y2 y3 y4 y5) (impl_IsMachine.l0 (k + 1) y0 y1 y2 y3 y4 y5)) ∧ (∀ y0 y1 y2 y3 y4 y5 y6 y7 y8 y9 y10 y11, LeO (impl_IsMachine.j2 k y0 y1 y2 y3 y4 y5 y6 y7 y8 y9 y10 y11) (impl_IsMachine.j2 (k + 1) y0 y1 y2 y3 y4 y5 y6 y7 y8 y9 y10 y11)) ∧ (∀ y0 y1 y2 y3 y4 y5 y6 y7 y8 y9 y10 y11 y12, LeO (impl_IsMachine.l1 k y0 y1 y2 y3 y4 y5 y6 y7 y8 y9 y10 y11 y12) (impl_IsMachine.l1 (k + 1) y0 y1 y2 y3 y4 y5 y6 y7 y8 y9 y10 y11 y12))
 | 0 => ⟨fun _ _ _ _ r h => by simp [impl_IsMachine.j0] at h, fun _ _ _ _ _ _ r h => by simp [impl_IsMachine.l0] at h, fun _ _ _ _ _ _ _ _ _ _ _ _ r h => by simp [impl_IsMachine.j2] at h, fun _ _ _ _ _ _ _ _ _ _ _ _ _ r h => by simp [impl_IsMachine.l1] at h⟩
 | k + 1 => by
  obtain ⟨ih0, ih1, ih2, ih3⟩ := impl_IsMachine.mono_l k
  refine ⟨?a0, ?a1, ?a2, ?a3⟩
  case' a0 => intros; unfold impl_IsMachine.j0
  case' a1 => intros; unfold impl_IsMachine.l0
  case' a2 => intros; unfold impl_IsMachine.j2
  case' a3 => intros; unfold impl_IsMachine.l1
  all_goals repeat' first
  | (with_reducible exact ih0 _ _ _ _)
  | (with_reducible exact ih1 _ _ _ _ _ _)
  | (with_reducible exact ih2 _ _ _ _ _ _ _ _ _ _ _ _)
  | (with_reducible exact ih3 _ _ _ _ _ _ _ _ _ _ _ _ _)
  | (with_reducible exact LeO.refl _)
  | (with_reducible exact LeO.none _)
  | (with_reducible refine LeO.ite ?_ ?_)
  | (with_reducible refine LeO.bind ?_ (fun _ => ?_))
  | exact ih0 _ _ _ _
  | exact ih1 _ _ _ _ _ _
  | exact ih2 _ _ _ _ _ _ _ _ _ _ _ _
  | exact ih3 _ _ _ _ _ _ _ _ _ _ _ _ _
  | exact LeO.none _
  | refine LeO.ite ?_ ?_
  | refine LeO.bind ?_ (fun _ => ?_)
theorem impl_IsMachine.mono : ∀ a0 a1 a2 k, LeO (impl_IsMachine.f k a0 a1 a2) (impl_IsMachine.f (k + 1) a0 a1 a2) := by
 intro a0 a1 a2 k
 obtain ⟨ih0, ih1, ih2, ih3⟩ := impl_IsMachine.mono_l k
 unfold impl_IsMachine.f
 repeat' first
   | (with_reducible exact ih0 _ _ _ _)
   | (with_reducible exact ih1 _ _ _ _ _ _)
   | (with_reducible exact ih2 _ _ _ _ _ _ _ _ _ _ _ _)
   | (with_reducible exact ih3 _ _ _ _ _ _ _ _ _ _ _ _ _)
   | (with_reducible exact LeO.refl _)
   | (with_reducible exact LeO.none _)
   | (with_reducible refine LeO.ite ?_ ?_)
   | (with_reducible refine LeO.bind ?_ (fun _ => ?_))
   | exact ih0 _ _ _ _
   | exact ih1 _ _ _ _ _ _
   | exact ih2 _ _ _ _ _ _ _ _ _ _ _ _
   | exact ih3 _ _ _ _ _ _ _ _ _ _ _ _ _
   | exact LeO.none _
   | refine LeO.ite ?_ ?_
   | refine LeO.bind ?_ (fun _ => ?_)
set_option maxHeartbeats 8000000 in
set_option maxRecDepth 100000 in
theorem impl_IsMachine.calls (k : Nat) (a0_0 : Int) (A0_1 : Option Addr) (c0_1 : Nat) (l0_1 : List Bool) (A0_2 : Option Addr) (c0_2 : Nat) (l0_2 : List (S46)) (r : Bool) (w : World) (hr0_1 : Kd.C Kd.bool w A0_1 l0_1.length l0_1) (hc0_1 : l0_1.length ≤ c0_1) (hr0_2 : Kd.C k46 w A0_2 l0_2.length l0_2) (hc0_2 : l0_2.length ≤ c0_2) (h : impl_IsMachine.f k a0_0 l0_1 l0_2 = some r) :
  Calls Try.prog 10 #[.agg #[.int .i64 a0_0, .slice A0_1 l0_1.length c0_1, .slice A0_2 l0_2.length c0_2]] w fun e w' => e = .returned (.bool r) ∧ Below w.heap.size w w' := by
 have hu27 := Try.underlying27
 have hu46 := Try.underlying46
 have HR0_1 := Aside0.mk hr0_1
 have HC0_1 := Aside0.mk hc0_1
 clear hr0_1 hc0_1
 have HR0_2 := Aside0.mk hr0_2
 have HC0_2 := Aside0.mk hc0_2
 clear hr0_2 hc0_2
 have HB := Aside0.mk (Below.refl w.heap.size w)
 have H : ((impl_InRange.f a0_0 1 6).bind fun t102 => (if t102 = true then (if (l0_1.length : Int) = a0_0 then (impl_IsMachine.j0 k (decide ((l0_2.length : Int) > 12)) a0_0 l0_1 l0_2) else (impl_IsMachine.j0 k true a0_0 l0_1 l0_2)) else (impl_IsMachine.j0 k true a0_0 l0_1 l0_2))) = some r := h
 clear h
 have HC2 := Aside0.mk H
 clear H
 go_enter Try.func10, Try.ntmps10
 go_upto_region 1 with (first | ((with_reducible refine gate_dst (N := 1) rfl ?_); (try (refine gate_guard (by rfl) ?_; dsimp only)); refine box_event ?hg (N := 1) ?hd (cs := #[.int .i64 a0_0, .slice A0_1 l0_1.length c0_1, .slice A0_2 l0_2.length c0_2]) (t := 27) ?hr ?_; (case hd => rfl); (case hg => rfl); (case hr => first | (go_simp; done) | (go_simp; rfl)); intro gb101 hg w3 hbox hb; have BK101 := Aside0.mk (hbox); have GW101 := gS HB hg; have GE101 := gS HB hg; replace HB := bS HB hb; clear hb hbox hg))
 (try simp only [Act.put, List.setIfInBounds_toArray, List.set_cons_zero, List.set_cons_succ])
 go_cut [24] (fun v24 wc => ∃ (kq : Nat) (x24_1 : Bool), v24 = .bool x24_1 ∧ Aside0 (impl_IsMachine.j0 kq x24_1 a0_0 l0_1 l0_2 = some r) ∧ Aside0 (kq ≤ k) ∧ Aside0 (wc.heap[gb101]? = some (.cells #[.int .i64 a0_0, (.slice A0_1 l0_1.length c0_1), (.slice A0_2 l0_2.length c0_2)] 27 (0, 0))) ∧ Aside0 (Below w.heap.size w wc))
 case first =>
  have H := HC2.out
  clear HC2
  obtain ⟨t102, A4, H⟩ := bindS H
  by_cases c5 : t102 = true
  ·subst c5
   have H1 : (if (l0_1.length : Int) = a0_0 then (impl_IsMachine.j0 k (decide ((l0_2.length : Int) > 12)) a0_0 l0_1 l0_2) else (impl_IsMachine.j0 k true a0_0 l0_1 l0_2)) = some r := by rw [if_pos rfl] at H; exact H
   clear H
   have H := H1
   clear H1
   by_cases c6 : (l0_1.length : Int) = a0_0
   ·rw [if_pos c6] at H
    have c6b0 : ((l0_1.length : Int) == a0_0) = true := beq_iff_eq.mpr c6
    have c6b1 : ((l0_1.length : Int) != a0_0) = false := bne_eq_false_iff_eq.mpr c6
    clear c6
    (first | rw [c6b0] | (simp only [i64_w, i32_w]; rw [c6b0]) | skip)
    have H' := Aside0.mk H
    clear H
    obtain ⟨hcz7_0, hcz7_1, hcz7_2, hfz7_0, hfz7_1, hfz7_2⟩ := bq3 BK101
    go_wp2_with (first | ((with_reducible refine gate_callee (f := 22) rfl ?_); refine goesL_ (some 9) rfl rfl Try.func22 (by kernel_rfl) rfl #[.int .i64 a0_0, .int .i64 1, .int .i64 6] rfl zG ?_; (with_reducible refine (impl_InRange.calls a0_0 1 6 true _ A4.out).mono ?_); rintro e w' ⟨rfl, ⟨nd, rfl⟩⟩; refine ⟨_, rfl, ?_⟩))
    go_meet
    case rel => exact ⟨_, (decide ((l0_2.length : Int) > 12)), zF, H', ⟨by first | omega | exact Nat.le_refl _⟩, ⟨zK BK101⟩, ⟨zB HB⟩⟩
   ·rw [if_neg c6] at H
    have c6b0 : ((l0_1.length : Int) == a0_0) = false := beq_eq_false_iff_ne.mpr c6
    have c6b1 : ((l0_1.length : Int) != a0_0) = true := bne_iff_ne.mpr c6
    (first | rw [c6b0] | (simp only [i64_w, i32_w]; rw [c6b0]) | skip)
    have H' := Aside0.mk H
    clear H
    obtain ⟨hcz8_0, hcz8_1, hcz8_2, hfz8_0, hfz8_1, hfz8_2⟩ := bq3 BK101
    go_wp2_with (first | ((with_reducible refine gate_callee (f := 22) rfl ?_); refine goesL_ (some 9) rfl rfl Try.func22 (by kernel_rfl) rfl #[.int .i64 a0_0, .int .i64 1, .int .i64 6] rfl zG ?_; (with_reducible refine (impl_InRange.calls a0_0 1 6 true _ A4.out).mono ?_); rintro e w' ⟨rfl, ⟨nd, rfl⟩⟩; refine ⟨_, rfl, ?_⟩))
    go_meet
    case rel => exact ⟨_, (true), zF, H', ⟨by first | omega | exact Nat.le_refl _⟩, ⟨zK BK101⟩, ⟨zB HB⟩⟩
  ·replace c5 := Bool.eq_false_iff.mpr c5
   subst c5
   have H1 : (impl_IsMachine.j0 k true a0_0 l0_1 l0_2) = some r := by rw [if_neg (show ¬ (false = true) by decide)] at H; exact H
   clear H
   have H := H1
   clear H1
   have H' := Aside0.mk H
   clear H
   obtain ⟨hcz9_0, hcz9_1, hcz9_2, hfz9_0, hfz9_1, hfz9_2⟩ := bq3 BK101
   go_wp2_with (first | ((with_reducible refine gate_callee (f := 22) rfl ?_); refine goesL_ (some 9) rfl rfl Try.func22 (by kernel_rfl) rfl #[.int .i64 a0_0, .int .i64 1, .int .i64 6] rfl zG ?_; (with_reducible refine (impl_InRange.calls a0_0 1 6 false _ A4.out).mono ?_); rintro e w' ⟨rfl, ⟨nd, rfl⟩⟩; refine ⟨_, rfl, ?_⟩))
   go_meet
   case rel => exact ⟨_, (true), zF, H', ⟨by first | omega | exact Nat.le_refl _⟩, ⟨zK BK101⟩, ⟨zB HB⟩⟩
 case rest =>
  clear HC2
  try clear c1
  try clear c2
  try clear p2
  try clear c5
  try clear c6
  try clear c6b0
  try clear c6b1
  try clear hcz7_0
  try clear hcz7_1
  try clear hcz7_2
  try clear hcz8_0
  try clear hcz8_1
  try clear hcz8_2
  try clear hcz9_0
  try clear hcz9_1
  try clear hcz9_2
  try clear hfz7_0
  try clear hfz7_1
  try clear hfz7_2
  try clear hfz8_0
  try clear hfz8_1
  try clear hfz8_2
  try clear hfz9_0
  try clear hfz9_1
  try clear hfz9_2
  obtain ⟨kq, x24_1, rfl, HA, HJ1, BK101, HB⟩ := hcut
  cases kq with
  | zero => exact absurd HA.out (by simp [impl_IsMachine.j0])
  | succ kj1 =>
   have H := HA.out
   clear HA
   simp only [impl_IsMachine.j0] at H
   by_cases c10 : x24_1 = true
   ·subst c10
    have H1 : (some false) = some r := by rw [if_pos rfl] at H; exact H
    clear H
    have H := H1
    clear H1
    obtain rfl := Option.some.inj H
    go_wp2
    go_ret
    exact ⟨zE, zB HB⟩
   ·replace c10 := Bool.eq_false_iff.mpr c10
    subst c10
    have H1 : (impl_IsMachine.l0 kj1 l0_2 (l0_2.length : Int) 0 a0_0 l0_1 l0_2) = some r := by rw [if_neg (show ¬ (false = true) by decide)] at H; exact H
    clear H
    have H := H1
    clear H1
    have H' := Aside0.mk H
    clear H
    obtain ⟨hcz11_0, hcz11_1, hcz11_2, hfz11_0, hfz11_1, hfz11_2⟩ := bq3 BK101
    go_wp2
    go_loopg [28] kj1 (fun kq v28 w' => ∃ (x28_2 : Int), v28 = .int .i64 x28_2 ∧ Aside0 (impl_IsMachine.l0 kq l0_2 (l0_2.length : Int) x28_2 a0_0 l0_1 l0_2 = some r) ∧ Aside0 (kq ≤ kj1) ∧ Aside0 (w'.heap[gb101]? = some (.cells #[.int .i64 a0_0, (.slice A0_1 l0_1.length c0_1), (.slice A0_2 l0_2.length c0_2)] 27 (0, 0))) ∧ Aside0 (Below w.heap.size w w'))
    case atStart => exact ⟨(0), zF, H', ⟨Nat.le_refl _⟩, ⟨zK BK101⟩, ⟨zB HB⟩⟩
    case round =>
     clear H'
     try clear c1
     try clear c2
     try clear p2
     try clear c5
     try clear c6
     try clear c6b0
     try clear c6b1
     try clear c10
     try clear hcz11_0
     try clear hcz11_1
     try clear hcz11_2
     try clear hcz7_0
     try clear hcz7_1
     try clear hcz7_2
     try clear hcz8_0
     try clear hcz8_1
     try clear hcz8_2
     try clear hcz9_0
     try clear hcz9_1
     try clear hcz9_2
     try clear hfz11_0
     try clear hfz11_1
     try clear hfz11_2
     try clear hfz7_0
     try clear hfz7_1
     try clear hfz7_2
     try clear hfz8_0
     try clear hfz8_1
     try clear hfz8_2
     try clear hfz9_0
     try clear hfz9_1
     try clear hfz9_2
     try clear p2
     obtain ⟨x28_2, rfl, HA, HK2, BK101, HB⟩ := hrel
     cases gk with
     | zero => exact absurd HA.out (by simp [impl_IsMachine.l0])
     | succ k2 =>
      have H := HA.out
      clear HA
      simp only [impl_IsMachine.l0] at H
      by_cases c12 : x28_2 < (l0_2.length : Int)
      ·rw [if_pos c12] at H
       have c12b0 : decide (x28_2 < (l0_2.length : Int)) = true := decide_eq_true c12
       clear c12
       obtain ⟨c13, H⟩ := ifS H
       have c13b0 : decide (0 ≤ x28_2) = true := decide_eq_true c13
       clear c13
       obtain ⟨c14, H⟩ := ifS H
       have c14b0 : decide (x28_2 < (l0_2.length : Int)) = true := decide_eq_true c14
       clear c14
       have HC15 := Aside0.mk H
       clear H
       have p103 : 0 ≤ (x28_2 : Int) := zD
       have q103 : x28_2 < (l0_2.length : Int) := zD
       obtain ⟨ad103, e103, hx103_0, hx103_1, hx103_2, hx103_3⟩ := at_T46 HR0_2.out x28_2 p103 q103
       cases e103
       replace hx103_0 := hL HB hx103_0
       replace hx103_1 := hL HB hx103_1
       replace hx103_2 := hL HB hx103_2
       replace hx103_3 := hL HB hx103_3
       replace p103 := eq_true p103
       replace q103 := eq_true q103
       go_upto_region 6 with (first | ((with_reducible refine gate_dst (N := 4) rfl ?_); (try (refine gate_guard (by rfl) ?_; dsimp only)); refine box_event ?hg (N := 4) ?hd (cs := #[.int .i64 0, .bool false, .int .i64 0, .int .i64 0]) (t := 46) ?hr ?_; (case hd => rfl); (case hg => rfl); (case hr => first | (go_simp; done) | (go_simp; rfl)); intro gb104 hg w16 hbox hb; have BK104 := Aside0.mk (hbox); have GW104 := gS HB hg; have GE104 := gS HB hg; replace HB := bS HB hb; have NB101_104 := nL BK101 hg; have NB104_101 := nR BK101 hg; replace BK101 := kB BK101 hb; clear hb hbox hg; have hnb17 := NB104_101.out; have hnc17 := NB101_104.out; obtain ⟨hcz18_0, hcz18_1, hcz18_2, hcz18_3, hfz18_0, hfz18_1, hfz18_2, hfz18_3⟩ := bq4 BK104))
       (try simp only [Act.put, List.setIfInBounds_toArray, List.set_cons_zero, List.set_cons_succ])
       go_cut [54] (fun v54 wc => ∃ (kq : Nat) (x54_14 : Bool), v54 = .bool x54_14 ∧ Aside0 (impl_IsMachine.j2 kq x28_2 l0_2 (l0_2.length : Int) x28_2 x54_14 a0_0 l0_1 l0_2 ((rd_T46 l0_2 x28_2).f0) ((rd_T46 l0_2 x28_2).f1) ((rd_T46 l0_2 x28_2).f2) ((rd_T46 l0_2 x28_2).f3) = some r) ∧ Aside0 (kq ≤ k2) ∧ Aside0 (wc.heap[gb101]? = some (.cells #[.int .i64 a0_0, (.slice A0_1 l0_1.length c0_1), (.slice (some ad103) l0_2.length c0_2)] 27 (0, 0))) ∧ Aside0 (wc.heap[gb104]? = some (.cells #[.int .i64 ((rd_T46 l0_2 x28_2).f0), .bool ((rd_T46 l0_2 x28_2).f1), .int .i64 ((rd_T46 l0_2 x28_2).f2), .int .i64 ((rd_T46 l0_2 x28_2).f3)] 46 (0, 0))) ∧ Aside0 (Below w.heap.size w wc))
       case first =>
        have H := HC15.out
        clear HC15
        obtain ⟨t105, A19, H⟩ := bindS H
        by_cases c20 : t105 = true
        ·subst c20
         have H1 : ((impl_InRange.f ((rd_T46 l0_2 x28_2).f3) 0 (wrap64 (a0_0 - 1))).bind fun t106 => (if t106 = true then ((impl_InRange.f ((rd_T46 l0_2 x28_2).f2) 0 5).bind fun t107 => (impl_IsMachine.j2 k2 x28_2 l0_2 (l0_2.length : Int) x28_2 (!t107) a0_0 l0_1 l0_2 ((rd_T46 l0_2 x28_2).f0) ((rd_T46 l0_2 x28_2).f1) ((rd_T46 l0_2 x28_2).f2) ((rd_T46 l0_2 x28_2).f3))) else (impl_IsMachine.j2 k2 x28_2 l0_2 (l0_2.length : Int) x28_2 true a0_0 l0_1 l0_2 ((rd_T46 l0_2 x28_2).f0) ((rd_T46 l0_2 x28_2).f1) ((rd_T46 l0_2 x28_2).f2) ((rd_T46 l0_2 x28_2).f3)))) = some r := by rw [if_pos rfl] at H; exact H
         clear H
         have H := H1
         clear H1
         obtain ⟨t106, A21, H⟩ := bindS H
         by_cases c22 : t106 = true
         ·subst c22
          have H1 : ((impl_InRange.f ((rd_T46 l0_2 x28_2).f2) 0 5).bind fun t107 => (impl_IsMachine.j2 k2 x28_2 l0_2 (l0_2.length : Int) x28_2 (!t107) a0_0 l0_1 l0_2 ((rd_T46 l0_2 x28_2).f0) ((rd_T46 l0_2 x28_2).f1) ((rd_T46 l0_2 x28_2).f2) ((rd_T46 l0_2 x28_2).f3))) = some r := by rw [if_pos rfl] at H; exact H
          clear H
          have H := H1
          clear H1
          obtain ⟨t107, A23, H⟩ := bindS H
          have H' := Aside0.mk H
          clear H
          have hnb24 := NB104_101.out
          have hnc24 := NB101_104.out
          obtain ⟨hcz25_0, hcz25_1, hcz25_2, hcz25_3, hfz25_0, hfz25_1, hfz25_2, hfz25_3⟩ := bq4 BK104
          obtain ⟨hcz26_0, hcz26_1, hcz26_2, hfz26_0, hfz26_1, hfz26_2⟩ := bq3 BK101
          go_wp2_with (first | ((with_reducible refine gate_callee (f := 22) rfl ?_); refine goesL_ (some 38) rfl rfl Try.func22 (by kernel_rfl) rfl #[.int .i64 ((rd_T46 l0_2 x28_2).f0), .int .i64 0, .int .i64 (wrap64 (a0_0 - 1))] rfl zG ?_; (with_reducible refine (impl_InRange.calls ((rd_T46 l0_2 x28_2).f0) 0 (wrap64 (a0_0 - 1)) true _ A19.out).mono ?_); rintro e w' ⟨rfl, ⟨nd, rfl⟩⟩; refine ⟨_, rfl, ?_⟩) | (go_at_call 22; (with_reducible refine (impl_InRange.calls ((rd_T46 l0_2 x28_2).f3) 0 (wrap64 (a0_0 - 1)) true _ A21.out).mono ?_); rintro e w' ⟨rfl, ⟨nd, rfl⟩⟩) | (go_at_call 22; (with_reducible refine (impl_InRange.calls ((rd_T46 l0_2 x28_2).f2) 0 5 t107 _ A23.out).mono ?_); rintro e w' ⟨rfl, ⟨nd, rfl⟩⟩))
          go_meet
          case rel => exact ⟨_, (!t107), zF, H', ⟨by have := HJ1.out; have := HK2.out; first | omega | exact Nat.le_refl _⟩, ⟨kF BK101⟩, ⟨by (with_reducible repeat (first | refine blk_drewN ?_ _ | refine blk_drew ?_ | refine blk_alloc ?_ _)); refine blk_put (cs := #[.int .i64 ((rd_T46 l0_2 x28_2).f0), .bool ((rd_T46 l0_2 x28_2).f1), .int .i64 ((rd_T46 l0_2 x28_2).f2), .int .i64 0]) ?_ 3 _ rfl; (with_reducible repeat (first | refine blk_drewN ?_ _ | refine blk_drew ?_ | refine blk_alloc ?_ _)); refine blk_put (cs := #[.int .i64 ((rd_T46 l0_2 x28_2).f0), .bool ((rd_T46 l0_2 x28_2).f1), .int .i64 0, .int .i64 0]) ?_ 2 _ rfl; (with_reducible repeat (first | refine blk_drewN ?_ _ | refine blk_drew ?_ | refine blk_alloc ?_ _)); refine blk_put (cs := #[.int .i64 ((rd_T46 l0_2 x28_2).f0), .bool false, .int .i64 0, .int .i64 0]) ?_ 1 _ rfl; (with_reducible repeat (first | refine blk_drewN ?_ _ | refine blk_drew ?_ | refine blk_alloc ?_ _)); refine blk_put (cs := #[.int .i64 0, .bool false, .int .i64 0, .int .i64 0]) ?_ 0 _ rfl; (with_reducible repeat (first | refine blk_drewN ?_ _ | refine blk_drew ?_ | refine blk_alloc ?_ _)); exact BK104.out⟩, ⟨zB HB⟩⟩
         ·replace c22 := Bool.eq_false_iff.mpr c22
          subst c22
          have H1 : (impl_IsMachine.j2 k2 x28_2 l0_2 (l0_2.length : Int) x28_2 true a0_0 l0_1 l0_2 ((rd_T46 l0_2 x28_2).f0) ((rd_T46 l0_2 x28_2).f1) ((rd_T46 l0_2 x28_2).f2) ((rd_T46 l0_2 x28_2).f3)) = some r := by rw [if_neg (show ¬ (false = true) by decide)] at H; exact H
          clear H
          have H := H1
          clear H1
          have H' := Aside0.mk H
          clear H
          have hnb27 := NB104_101.out
          have hnc27 := NB101_104.out
          obtain ⟨hcz28_0, hcz28_1, hcz28_2, hcz28_3, hfz28_0, hfz28_1, hfz28_2, hfz28_3⟩ := bq4 BK104
          obtain ⟨hcz29_0, hcz29_1, hcz29_2, hfz29_0, hfz29_1, hfz29_2⟩ := bq3 BK101
          go_wp2_with (first | ((with_reducible refine gate_callee (f := 22) rfl ?_); refine goesL_ (some 38) rfl rfl Try.func22 (by kernel_rfl) rfl #[.int .i64 ((rd_T46 l0_2 x28_2).f0), .int .i64 0, .int .i64 (wrap64 (a0_0 - 1))] rfl zG ?_; (with_reducible refine (impl_InRange.calls ((rd_T46 l0_2 x28_2).f0) 0 (wrap64 (a0_0 - 1)) true _ A19.out).mono ?_); rintro e w' ⟨rfl, ⟨nd, rfl⟩⟩; refine ⟨_, rfl, ?_⟩) | (go_at_call 22; (with_reducible refine (impl_InRange.calls ((rd_T46 l0_2 x28_2).f3) 0 (wrap64 (a0_0 - 1)) false _ A21.out).mono ?_); rintro e w' ⟨rfl, ⟨nd, rfl⟩⟩))
          go_meet
          case rel => exact ⟨_, (true), zF, H', ⟨by have := HJ1.out; have := HK2.out; first | omega | exact Nat.le_refl _⟩, ⟨kF BK101⟩, ⟨by (with_reducible repeat (first | refine blk_drewN ?_ _ | refine blk_drew ?_ | refine blk_alloc ?_ _)); refine blk_put (cs := #[.int .i64 ((rd_T46 l0_2 x28_2).f0), .bool ((rd_T46 l0_2 x28_2).f1), .int .i64 ((rd_T46 l0_2 x28_2).f2), .int .i64 0]) ?_ 3 _ rfl; (with_reducible repeat (first | refine blk_drewN ?_ _ | refine blk_drew ?_ | refine blk_alloc ?_ _)); refine blk_put (cs := #[.int .i64 ((rd_T46 l0_2 x28_2).f0), .bool ((rd_T46 l0_2 x28_2).f1), .int .i64 0, .int .i64 0]) ?_ 2 _ rfl; (with_reducible repeat (first | refine blk_drewN ?_ _ | refine blk_drew ?_ | refine blk_alloc ?_ _)); refine blk_put (cs := #[.int .i64 ((rd_T46 l0_2 x28_2).f0), .bool false, .int .i64 0, .int .i64 0]) ?_ 1 _ rfl; (with_reducible repeat (first | refine blk_drewN ?_ _ | refine blk_drew ?_ | refine blk_alloc ?_ _)); refine blk_put (cs := #[.int .i64 0, .bool false, .int .i64 0, .int .i64 0]) ?_ 0 _ rfl; (with_reducible repeat (first | refine blk_drewN ?_ _ | refine blk_drew ?_ | refine blk_alloc ?_ _)); exact BK104.out⟩, ⟨zB HB⟩⟩
        ·replace c20 := Bool.eq_false_iff.mpr c20
         subst c20
         have H1 : (impl_IsMachine.j2 k2 x28_2 l0_2 (l0_2.length : Int) x28_2 true a0_0 l0_1 l0_2 ((rd_T46 l0_2 x28_2).f0) ((rd_T46 l0_2 x28_2).f1) ((rd_T46 l0_2 x28_2).f2) ((rd_T46 l0_2 x28_2).f3)) = some r := by rw [if_neg (show ¬ (false = true) by decide)] at H; exact H
         clear H
         have H := H1
         clear H1
         have H' := Aside0.mk H
         clear H
         have hnb30 := NB104_101.out
         have hnc30 := NB101_104.out
         obtain ⟨hcz31_0, hcz31_1, hcz31_2, hcz31_3, hfz31_0, hfz31_1, hfz31_2, hfz31_3⟩ := bq4 BK104
         obtain ⟨hcz32_0, hcz32_1, hcz32_2, hfz32_0, hfz32_1, hfz32_2⟩ := bq3 BK101
         go_wp2_with (first | ((with_reducible refine gate_callee (f := 22) rfl ?_); refine goesL_ (some 38) rfl rfl Try.func22 (by kernel_rfl) rfl #[.int .i64 ((rd_T46 l0_2 x28_2).f0), .int .i64 0, .int .i64 (wrap64 (a0_0 - 1))] rfl zG ?_; (with_reducible refine (impl_InRange.calls ((rd_T46 l0_2 x28_2).f0) 0 (wrap64 (a0_0 - 1)) false _ A19.out).mono ?_); rintro e w' ⟨rfl, ⟨nd, rfl⟩⟩; refine ⟨_, rfl, ?_⟩))
         go_meet
         case rel => exact ⟨_, (true), zF, H', ⟨by have := HJ1.out; have := HK2.out; first | omega | exact Nat.le_refl _⟩, ⟨kF BK101⟩, ⟨by (with_reducible repeat (first | refine blk_drewN ?_ _ | refine blk_drew ?_ | refine blk_alloc ?_ _)); refine blk_put (cs := #[.int .i64 ((rd_T46 l0_2 x28_2).f0), .bool ((rd_T46 l0_2 x28_2).f1), .int .i64 ((rd_T46 l0_2 x28_2).f2), .int .i64 0]) ?_ 3 _ rfl; (with_reducible repeat (first | refine blk_drewN ?_ _ | refine blk_drew ?_ | refine blk_alloc ?_ _)); refine blk_put (cs := #[.int .i64 ((rd_T46 l0_2 x28_2).f0), .bool ((rd_T46 l0_2 x28_2).f1), .int .i64 0, .int .i64 0]) ?_ 2 _ rfl; (with_reducible repeat (first | refine blk_drewN ?_ _ | refine blk_drew ?_ | refine blk_alloc ?_ _)); refine blk_put (cs := #[.int .i64 ((rd_T46 l0_2 x28_2).f0), .bool false, .int .i64 0, .int .i64 0]) ?_ 1 _ rfl; (with_reducible repeat (first | refine blk_drewN ?_ _ | refine blk_drew ?_ | refine blk_alloc ?_ _)); refine blk_put (cs := #[.int .i64 0, .bool false, .int .i64 0, .int .i64 0]) ?_ 0 _ rfl; (with_reducible repeat (first | refine blk_drewN ?_ _ | refine blk_drew ?_ | refine blk_alloc ?_ _)); exact BK104.out⟩, ⟨zB HB⟩⟩
       case rest =>
        clear HC15
        try clear c1
        try clear p1
        try clear q1
        try clear hx1
        try clear c2
        try clear p2
        try clear c3
        try clear c5
        try clear c6
        try clear c6b0
        try clear c6b1
        try clear p6
        try clear c10
        try clear p10
        try clear q10
        try clear hx10
        try clear c12
        try clear c12b0
        try clear c13
        try clear c13b0
        try clear c14
        try clear c14b0
        try clear c17
        try clear c20
        try clear c22
        try clear c24
        try clear c27
        try clear c30
        try clear hcz11_0
        try clear hcz11_1
        try clear hcz11_2
        try clear hcz18_0
        try clear hcz18_1
        try clear hcz18_2
        try clear hcz18_3
        try clear hcz25_0
        try clear hcz25_1
        try clear hcz25_2
        try clear hcz25_3
        try clear hcz26_0
        try clear hcz26_1
        try clear hcz26_2
        try clear hcz28_0
        try clear hcz28_1
        try clear hcz28_2
        try clear hcz28_3
        try clear hcz29_0
        try clear hcz29_1
        try clear hcz29_2
        try clear hcz31_0
        try clear hcz31_1
        try clear hcz31_2
        try clear hcz31_3
        try clear hcz32_0
        try clear hcz32_1
        try clear hcz32_2
        try clear hcz7_0
        try clear hcz7_1
        try clear hcz7_2
        try clear hcz8_0
        try clear hcz8_1
        try clear hcz8_2
        try clear hcz9_0
        try clear hcz9_1
        try clear hcz9_2
        try clear hfz11_0
        try clear hfz11_1
        try clear hfz11_2
        try clear hfz18_0
        try clear hfz18_1
        try clear hfz18_2
        try clear hfz18_3
        try clear hfz25_0
        try clear hfz25_1
        try clear hfz25_2
        try clear hfz25_3
        try clear hfz26_0
        try clear hfz26_1
        try clear hfz26_2
        try clear hfz28_0
        try clear hfz28_1
        try clear hfz28_2
        try clear hfz28_3
        try clear hfz29_0
        try clear hfz29_1
        try clear hfz29_2
        try clear hfz31_0
        try clear hfz31_1
        try clear hfz31_2
        try clear hfz31_3
        try clear hfz32_0
        try clear hfz32_1
        try clear hfz32_2
        try clear hfz7_0
        try clear hfz7_1
        try clear hfz7_2
        try clear hfz8_0
        try clear hfz8_1
        try clear hfz8_2
        try clear hfz9_0
        try clear hfz9_1
        try clear hfz9_2
        try clear hx103_0
        try clear hx103_1
        try clear hx103_2
        try clear hx103_3
        try clear p103
        try clear p2
        try clear q103
        obtain ⟨kq, x54_14, rfl, HA, HJ14, BK101, BK104, HB⟩ := hcut
        cases kq with
        | zero => exact absurd HA.out (by simp [impl_IsMachine.j2])
        | succ kj14 =>
         have H := HA.out
         clear HA
         simp only [impl_IsMachine.j2] at H
         by_cases c33 : x54_14 = true
         ·subst c33
          have H1 : (some false) = some r := by rw [if_pos rfl] at H; exact H
          clear H
          have H := H1
          clear H1
          obtain rfl := Option.some.inj H
          go_wp2
          go_ret
          exact ⟨zE, zB HB⟩
         ·replace c33 := Bool.eq_false_iff.mpr c33
          subst c33
          have H1 : (if 0 ≤ x28_2 then (if x28_2 ≤ (l0_2.length : Int) then ((some (l0_2.take (x28_2 : Int).toNat : List (S46))).bind fun y108 => (impl_IsMachine.l1 kj14 l0_2 (l0_2.length : Int) x28_2 y108 (y108.length : Int) 0 a0_0 l0_1 l0_2 ((rd_T46 l0_2 x28_2).f0) ((rd_T46 l0_2 x28_2).f1) ((rd_T46 l0_2 x28_2).f2) ((rd_T46 l0_2 x28_2).f3))) else (none)) else (none)) = some r := by rw [if_neg (show ¬ (false = true) by decide)] at H; exact H
          clear H
          have H := H1
          clear H1
          obtain ⟨c34, H⟩ := ifS H
          have c34b0 := eq_true c34
          have c34b1 : decide (0 ≤ x28_2) = true := decide_eq_true c34
          clear c34
          obtain ⟨c35, H⟩ := ifS H
          have c35b0 := eq_true c35
          have c35b1 : decide (x28_2 ≤ (l0_2.length : Int)) = true := decide_eq_true c35
          clear c35
          obtain ⟨y108, hy108⟩ : ∃ y_ : List (S46), y_ = (l0_2.take (x28_2 : Int).toNat) := ⟨_, rfl⟩
          replace H : (impl_IsMachine.l1 kj14 l0_2 (l0_2.length : Int) x28_2 y108 (y108.length : Int) 0 a0_0 l0_1 l0_2 ((rd_T46 l0_2 x28_2).f0) ((rd_T46 l0_2 x28_2).f1) ((rd_T46 l0_2 x28_2).f2) ((rd_T46 l0_2 x28_2).f3)) = some r := by first | (rw [hy108]; with_reducible exact H) | (rw [hy108]; exact H) | exact H
          have Ny108 := Aside0.mk hy108
          clear hy108
          have H' := Aside0.mk H
          clear H
          have hnb36 := NB101_104.out
          have hnc36 := NB104_101.out
          obtain ⟨hcz37_0, hcz37_1, hcz37_2, hfz37_0, hfz37_1, hfz37_2⟩ := bq3 BK101
          have q38 : (x28_2 : Int) ≤ ((l0_2.length : Int) : Int) := zD
          obtain ⟨i038, hi038, _, hsz38, _⟩ := info_parts info46
          have hroom38 : l0_2.length ≤ c0_2 := HC0_2.out
          have hC38 : Kd.C k46 _ (some ad103) l0_2.length l0_2 := HR0_2.out
          have hcut38 := cut_to (P := Try.prog) 25 46 .i64 Try.underlying25 hi038 (some ad103) l0_2.length c0_2 x28_2 (zD) q38 hroom38
          have hr38 := Kd.C_take (m := (x28_2 : Int).toNat) hC38 (by omega)
          have hy38 : y108.length = (x28_2 : Int).toNat := (by rw [Ny108.out, List.length_take]; omega)
          rw [← Ny108.out] at hr38
          rw [← hy38] at hcut38
          have HR111 := Aside0.mk hr38
          have HC111 := Aside0.mk (show y108.length ≤ c0_2 from by omega)
          clear hr38 hC38 hroom38 hi038 hsz38
          have KY38 := Aside0.mk hy38
          clear hy38
          replace q38 := eq_true q38
          go_wp2
          go_loopg [60] kj14 (fun kq v60 w' => ∃ (x60_4 : Int), v60 = .int .i64 x60_4 ∧ Aside0 (impl_IsMachine.l1 kq l0_2 (l0_2.length : Int) x28_2 y108 (y108.length : Int) x60_4 a0_0 l0_1 l0_2 ((rd_T46 l0_2 x28_2).f0) ((rd_T46 l0_2 x28_2).f1) ((rd_T46 l0_2 x28_2).f2) ((rd_T46 l0_2 x28_2).f3) = some r) ∧ Aside0 (kq ≤ kj14) ∧ Aside0 (w'.heap[gb101]? = some (.cells #[.int .i64 a0_0, (.slice A0_1 l0_1.length c0_1), (.slice (some ad103) l0_2.length c0_2)] 27 (0, 0))) ∧ Aside0 (w'.heap[gb104]? = some (.cells #[.int .i64 ((rd_T46 l0_2 x28_2).f0), .bool ((rd_T46 l0_2 x28_2).f1), .int .i64 ((rd_T46 l0_2 x28_2).f2), .int .i64 ((rd_T46 l0_2 x28_2).f3)] 46 (0, 0))) ∧ Aside0 (Below w.heap.size w w'))
          case atStart => exact ⟨(0), zF, H', ⟨Nat.le_refl _⟩, ⟨zK BK101⟩, ⟨zK BK104⟩, ⟨zB HB⟩⟩
          case round =>
           clear H'
           try clear c1
           try clear p1
           try clear q1
           try clear hx1
           try clear c2
           try clear p2
           try clear c3
           try clear q3
           try clear c5
           try clear c6
           try clear c6b0
           try clear c6b1
           try clear p6
           try clear c10
           try clear p10
           try clear q10
           try clear hx10
           try clear c12
           try clear c12b0
           try clear c13
           try clear c13b0
           try clear c14
           try clear c14b0
           try clear c17
           try clear c20
           try clear c22
           try clear c24
           try clear c27
           try clear c30
           try clear c33
           try clear c34
           try clear c34b0
           try clear c34b1
           try clear c35
           try clear c35b0
           try clear c35b1
           try clear c36
           try clear q38
           try clear hcz11_0
           try clear hcz11_1
           try clear hcz11_2
           try clear hcz18_0
           try clear hcz18_1
           try clear hcz18_2
           try clear hcz18_3
           try clear hcz25_0
           try clear hcz25_1
           try clear hcz25_2
           try clear hcz25_3
           try clear hcz26_0
           try clear hcz26_1
           try clear hcz26_2
           try clear hcz28_0
           try clear hcz28_1
           try clear hcz28_2
           try clear hcz28_3
           try clear hcz29_0
           try clear hcz29_1
           try clear hcz29_2
           try clear hcz31_0
           try clear hcz31_1
           try clear hcz31_2
           try clear hcz31_3
           try clear hcz32_0
           try clear hcz32_1
           try clear hcz32_2
           try clear hcz37_0
           try clear hcz37_1
           try clear hcz37_2
           try clear hcz7_0
           try clear hcz7_1
           try clear hcz7_2
           try clear hcz8_0
           try clear hcz8_1
           try clear hcz8_2
           try clear hcz9_0
           try clear hcz9_1
           try clear hcz9_2
           try clear hfz11_0
           try clear hfz11_1
           try clear hfz11_2
           try clear hfz18_0
           try clear hfz18_1
           try clear hfz18_2
           try clear hfz18_3
           try clear hfz25_0
           try clear hfz25_1
           try clear hfz25_2
           try clear hfz25_3
           try clear hfz26_0
           try clear hfz26_1
           try clear hfz26_2
           try clear hfz28_0
           try clear hfz28_1
           try clear hfz28_2
           try clear hfz28_3
           try clear hfz29_0
           try clear hfz29_1
           try clear hfz29_2
           try clear hfz31_0
           try clear hfz31_1
           try clear hfz31_2
           try clear hfz31_3
           try clear hfz32_0
           try clear hfz32_1
           try clear hfz32_2
           try clear hfz37_0
           try clear hfz37_1
           try clear hfz37_2
           try clear hfz7_0
           try clear hfz7_1
           try clear hfz7_2
           try clear hfz8_0
           try clear hfz8_1
           try clear hfz8_2
           try clear hfz9_0
           try clear hfz9_1
           try clear hfz9_2
           try clear hx103_0
           try clear hx103_1
           try clear hx103_2
           try clear hx103_3
           try clear p1
           try clear p10
           try clear p103
           try clear p2
           try clear p6
           try clear q1
           try clear q10
           try clear q103
           try clear q38
           obtain ⟨x60_4, rfl, HA, HK4, BK101, BK104, HB⟩ := hrel
           cases gk with
           | zero => exact absurd HA.out (by simp [impl_IsMachine.l1])
           | succ k4 =>
            have H := HA.out
            clear HA
            simp only [impl_IsMachine.l1] at H
            by_cases c39 : x60_4 < (y108.length : Int)
            ·rw [if_pos c39] at H
             have c39b0 : decide (x60_4 < (y108.length : Int)) = true := decide_eq_true c39
             clear c39
             obtain ⟨c40, H⟩ := ifS H
             have c40b0 : decide (0 ≤ x60_4) = true := decide_eq_true c40
             clear c40
             obtain ⟨c41, H⟩ := ifS H
             have c41b0 : decide (x60_4 < (y108.length : Int)) = true := decide_eq_true c41
             clear c41
             by_cases c42 : ((rd_T46 y108 x60_4).f0) = ((rd_T46 l0_2 x28_2).f0)
             ·rw [if_pos c42] at H
              have c42b0 : (((rd_T46 y108 x60_4).f0) == ((rd_T46 l0_2 x28_2).f0)) = true := beq_iff_eq.mpr c42
              have c42b1 : (((rd_T46 y108 x60_4).f0) != ((rd_T46 l0_2 x28_2).f0)) = false := bne_eq_false_iff_eq.mpr c42
              clear c42
              by_cases c43 : (((rd_T46 y108 x60_4).f1) != ((rd_T46 l0_2 x28_2).f1)) = true
              ·rw [if_pos c43] at H
               have c43b0 : (((rd_T46 y108 x60_4).f1) != ((rd_T46 l0_2 x28_2).f1)) = true := c43
               (try (have c43b1 : decide (((rd_T46 y108 x60_4).f1) = ((rd_T46 l0_2 x28_2).f1)) = false := by simpa using c43))
               (try (have c43b2 : (((rd_T46 y108 x60_4).f1) == ((rd_T46 l0_2 x28_2).f1)) = false := by simpa using c43))
               (try (have c43b3 : ¬ (((rd_T46 y108 x60_4).f1) = ((rd_T46 l0_2 x28_2).f1)) := by simpa using c43))
               clear c43
               obtain rfl := Option.some.inj H
               have p112 : 0 ≤ (x60_4 : Int) := zD
               have q112 : x60_4 < (y108.length : Int) := zD
               obtain ⟨ad112, e112, hx112_0, hx112_1, hx112_2, hx112_3⟩ := at_T46 HR111.out x60_4 p112 q112
               obtain rfl : ad103 = ad112 := (by injection e112)
               replace hx112_0 := hL HB hx112_0
               replace hx112_1 := hL HB hx112_1
               replace hx112_2 := hL HB hx112_2
               replace hx112_3 := hL HB hx112_3
               replace p112 := eq_true p112
               replace q112 := eq_true q112
               go_wp2_with (first | ((with_reducible refine gate_dst (N := 6) rfl ?_); (try (refine gate_guard (by rfl) ?_; dsimp only)); refine box_event ?hg (N := 6) ?hd (cs := #[.int .i64 0, .bool false, .int .i64 0, .int .i64 0]) (t := 46) ?hr ?_; (case hd => rfl); (case hg => rfl); (case hr => first | (go_simp; done) | (go_simp; rfl)); intro gb113 hg w44 hbox hb; have BK113 := Aside0.mk (hbox); have GW113 := gS HB hg; have GE113 := gS HB hg; replace HB := bS HB hb; have NB101_113 := nL BK101 hg; have NB113_101 := nR BK101 hg; replace BK101 := kB BK101 hb; have NB104_113 := nL BK104 hg; have NB113_104 := nR BK104 hg; replace BK104 := kB BK104 hb; clear hb hbox hg; have hnb45 := NB113_101.out; have hnc45 := NB101_113.out; have hnb46 := NB113_104.out; have hnc46 := NB104_113.out; obtain ⟨hcz47_0, hcz47_1, hcz47_2, hcz47_3, hfz47_0, hfz47_1, hfz47_2, hfz47_3⟩ := bq4 BK113; have hnb48 := NB104_101.out; have hnc48 := NB101_104.out; obtain ⟨hcz49_0, hcz49_1, hcz49_2, hcz49_3, hfz49_0, hfz49_1, hfz49_2, hfz49_3⟩ := bq4 BK104))
               go_ret
               exact ⟨zE, zB HB⟩
              ·rw [if_neg c43] at H
               have c43b0 : (((rd_T46 y108 x60_4).f1) != ((rd_T46 l0_2 x28_2).f1)) = false := by simpa using c43
               (try (have c43b1 : decide (((rd_T46 y108 x60_4).f1) = ((rd_T46 l0_2 x28_2).f1)) = true := by simpa using c43))
               (try (have c43b2 : (((rd_T46 y108 x60_4).f1) == ((rd_T46 l0_2 x28_2).f1)) = true := by simpa using c43))
               clear c43
               by_cases c50 : ((rd_T46 y108 x60_4).f2) = ((rd_T46 l0_2 x28_2).f2)
               ·rw [if_pos c50] at H
                have c50b0 : (((rd_T46 y108 x60_4).f2) == ((rd_T46 l0_2 x28_2).f2)) = true := beq_iff_eq.mpr c50
                have c50b1 : (((rd_T46 y108 x60_4).f2) != ((rd_T46 l0_2 x28_2).f2)) = false := bne_eq_false_iff_eq.mpr c50
                clear c50
                obtain rfl := Option.some.inj H
                have p112 : 0 ≤ (x60_4 : Int) := zD
                have q112 : x60_4 < (y108.length : Int) := zD
                obtain ⟨ad112, e112, hx112_0, hx112_1, hx112_2, hx112_3⟩ := at_T46 HR111.out x60_4 p112 q112
                obtain rfl : ad103 = ad112 := (by injection e112)
                replace hx112_0 := hL HB hx112_0
                replace hx112_1 := hL HB hx112_1
                replace hx112_2 := hL HB hx112_2
                replace hx112_3 := hL HB hx112_3
                replace p112 := eq_true p112
                replace q112 := eq_true q112
                go_wp2_with (first | ((with_reducible refine gate_dst (N := 6) rfl ?_); (try (refine gate_guard (by rfl) ?_; dsimp only)); refine box_event ?hg (N := 6) ?hd (cs := #[.int .i64 0, .bool false, .int .i64 0, .int .i64 0]) (t := 46) ?hr ?_; (case hd => rfl); (case hg => rfl); (case hr => first | (go_simp; done) | (go_simp; rfl)); intro gb113 hg w51 hbox hb; have BK113 := Aside0.mk (hbox); have GW113 := gS HB hg; have GE113 := gS HB hg; replace HB := bS HB hb; have NB101_113 := nL BK101 hg; have NB113_101 := nR BK101 hg; replace BK101 := kB BK101 hb; have NB104_113 := nL BK104 hg; have NB113_104 := nR BK104 hg; replace BK104 := kB BK104 hb; clear hb hbox hg; have hnb52 := NB113_101.out; have hnc52 := NB101_113.out; have hnb53 := NB113_104.out; have hnc53 := NB104_113.out; obtain ⟨hcz54_0, hcz54_1, hcz54_2, hcz54_3, hfz54_0, hfz54_1, hfz54_2, hfz54_3⟩ := bq4 BK113; have hnb55 := NB104_101.out; have hnc55 := NB101_104.out; obtain ⟨hcz56_0, hcz56_1, hcz56_2, hcz56_3, hfz56_0, hfz56_1, hfz56_2, hfz56_3⟩ := bq4 BK104))
                go_ret
                exact ⟨zE, zB HB⟩
               ·rw [if_neg c50] at H
                have c50b0 : (((rd_T46 y108 x60_4).f2) == ((rd_T46 l0_2 x28_2).f2)) = false := beq_eq_false_iff_ne.mpr c50
                have c50b1 : (((rd_T46 y108 x60_4).f2) != ((rd_T46 l0_2 x28_2).f2)) = true := bne_iff_ne.mpr c50
                have H' := Aside0.mk H
                clear H
                have p112 : 0 ≤ (x60_4 : Int) := zD
                have q112 : x60_4 < (y108.length : Int) := zD
                obtain ⟨ad112, e112, hx112_0, hx112_1, hx112_2, hx112_3⟩ := at_T46 HR111.out x60_4 p112 q112
                obtain rfl : ad103 = ad112 := (by injection e112)
                replace hx112_0 := hL HB hx112_0
                replace hx112_1 := hL HB hx112_1
                replace hx112_2 := hL HB hx112_2
                replace hx112_3 := hL HB hx112_3
                replace p112 := eq_true p112
                replace q112 := eq_true q112
                go_wp2_with (first | ((with_reducible refine gate_dst (N := 6) rfl ?_); (try (refine gate_guard (by rfl) ?_; dsimp only)); refine box_event ?hg (N := 6) ?hd (cs := #[.int .i64 0, .bool false, .int .i64 0, .int .i64 0]) (t := 46) ?hr ?_; (case hd => rfl); (case hg => rfl); (case hr => first | (go_simp; done) | (go_simp; rfl)); intro gb113 hg w57 hbox hb; have BK113 := Aside0.mk (hbox); have GW113 := gS HB hg; have GE113 := gS HB hg; replace HB := bS HB hb; have NB101_113 := nL BK101 hg; have NB113_101 := nR BK101 hg; replace BK101 := kB BK101 hb; have NB104_113 := nL BK104 hg; have NB113_104 := nR BK104 hg; replace BK104 := kB BK104 hb; clear hb hbox hg; have hnb58 := NB113_101.out; have hnc58 := NB101_113.out; have hnb59 := NB113_104.out; have hnc59 := NB104_113.out; obtain ⟨hcz60_0, hcz60_1, hcz60_2, hcz60_3, hfz60_0, hfz60_1, hfz60_2, hfz60_3⟩ := bq4 BK113; have hnb61 := NB104_101.out; have hnc61 := NB101_104.out; obtain ⟨hcz62_0, hcz62_1, hcz62_2, hcz62_3, hfz62_0, hfz62_1, hfz62_2, hfz62_3⟩ := bq4 BK104))
                go_roundg k4
                case measure => have := HJ1.out; have := HK2.out; have := HJ14.out; have := HK4.out; omega
                case rel => exact ⟨(wrap64 (x60_4 + 1)), zF, H', ⟨by have := HJ1.out; have := HK2.out; have := HJ14.out; have := HK4.out; omega⟩, ⟨kF BK101⟩, ⟨kF BK104⟩, ⟨zB HB⟩⟩
             ·rw [if_neg c42] at H
              have c42b0 : (((rd_T46 y108 x60_4).f0) == ((rd_T46 l0_2 x28_2).f0)) = false := beq_eq_false_iff_ne.mpr c42
              have c42b1 : (((rd_T46 y108 x60_4).f0) != ((rd_T46 l0_2 x28_2).f0)) = true := bne_iff_ne.mpr c42
              have H' := Aside0.mk H
              clear H
              have p112 : 0 ≤ (x60_4 : Int) := zD
              have q112 : x60_4 < (y108.length : Int) := zD
              obtain ⟨ad112, e112, hx112_0, hx112_1, hx112_2, hx112_3⟩ := at_T46 HR111.out x60_4 p112 q112
              obtain rfl : ad103 = ad112 := (by injection e112)
              replace hx112_0 := hL HB hx112_0
              replace hx112_1 := hL HB hx112_1
              replace hx112_2 := hL HB hx112_2
              replace hx112_3 := hL HB hx112_3
              replace p112 := eq_true p112
              replace q112 := eq_true q112
              go_wp2_with (first | ((with_reducible refine gate_dst (N := 6) rfl ?_); (try (refine gate_guard (by rfl) ?_; dsimp only)); refine box_event ?hg (N := 6) ?hd (cs := #[.int .i64 0, .bool false, .int .i64 0, .int .i64 0]) (t := 46) ?hr ?_; (case hd => rfl); (case hg => rfl); (case hr => first | (go_simp; done) | (go_simp; rfl)); intro gb113 hg w63 hbox hb; have BK113 := Aside0.mk (hbox); have GW113 := gS HB hg; have GE113 := gS HB hg; replace HB := bS HB hb; have NB101_113 := nL BK101 hg; have NB113_101 := nR BK101 hg; replace BK101 := kB BK101 hb; have NB104_113 := nL BK104 hg; have NB113_104 := nR BK104 hg; replace BK104 := kB BK104 hb; clear hb hbox hg; have hnb64 := NB113_101.out; have hnc64 := NB101_113.out; have hnb65 := NB113_104.out; have hnc65 := NB104_113.out; obtain ⟨hcz66_0, hcz66_1, hcz66_2, hcz66_3, hfz66_0, hfz66_1, hfz66_2, hfz66_3⟩ := bq4 BK113; have hnb67 := NB104_101.out; have hnc67 := NB101_104.out; obtain ⟨hcz68_0, hcz68_1, hcz68_2, hcz68_3, hfz68_0, hfz68_1, hfz68_2, hfz68_3⟩ := bq4 BK104))
              go_roundg k4
              case measure => have := HJ1.out; have := HK2.out; have := HJ14.out; have := HK4.out; omega
              case rel => exact ⟨(wrap64 (x60_4 + 1)), zF, H', ⟨by have := HJ1.out; have := HK2.out; have := HJ14.out; have := HK4.out; omega⟩, ⟨kF BK101⟩, ⟨kF BK104⟩, ⟨zB HB⟩⟩
            ·rw [if_neg c39] at H
             have c39b0 : decide (x60_4 < (y108.length : Int)) = false := decide_eq_false c39
             clear c39
             have H' := Aside0.mk H
             clear H
             go_wp2
             go_roundg k4
             case measure => have := HJ1.out; have := HK2.out; have := HJ14.out; have := HK4.out; omega
             case rel => exact ⟨(wrap64 (x28_2 + 1)), zF, H', ⟨by have := HJ1.out; have := HK2.out; have := HJ14.out; have := HK4.out; omega⟩, ⟨zK BK101⟩, ⟨zB HB⟩⟩
      ·rw [if_neg c12] at H
       have c12b0 : decide (x28_2 < (l0_2.length : Int)) = false := decide_eq_false c12
       clear c12
       obtain rfl := Option.some.inj H
       go_wp2
       go_ret
       exact ⟨zE, zB HB⟩

end Go.Proofs.Ytfibjclnaeocbaa.PFnChain
