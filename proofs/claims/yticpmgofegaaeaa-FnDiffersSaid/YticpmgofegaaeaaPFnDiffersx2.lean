-- WRITTEN by pp.py, this session's own wrapper around the print; not trusted: Lean checks it
import Derived.Test.YticpmgofegaaeaaPFnDiffersx0
namespace Go.Proofs.Yticpmgofegaaeaa.PFnDiffers
open Go.RowKit Go.Proofs.Yticpmgofegaaeaa.Hw Go.Proofs.YticpmgofegaaeaaW.PrintWords Go.Proofs.YticpmgofegaaeaaW.PrintLast Go.Proofs.YticpmgofegaaeaaW.PrintMore
attribute [local go_sem] max2_int min2_int max_two min_two max_three min_three max_four min_four   -- for this text's walks alone
set_option linter.unusedVariables false
set_option linter.unusedSimpArgs false
set_option linter.unusedSectionVars false

/-! ### impl_InRange: function 33 -/
def impl_InRange.f (a0 : Int) (a1 : Int) (a2 : Int) : Option (Bool) := if a1 ≤ a0 then (some (decide (a0 ≤ a2))) else (some false)
set_option maxHeartbeats 8000000 in
set_option maxRecDepth 100000 in
theorem impl_InRange.calls (a0 : Int) (a1 : Int) (a2 : Int) (r : Bool) (w : World) (h : impl_InRange.f a0 a1 a2 = some r) :
  Calls Try.prog 33 #[.int .i64 a0, .int .i64 a1, .int .i64 a2] w fun e w' => e = .returned (.bool r) ∧ Drawn0 w w' := by
 have H : (if a1 ≤ a0 then (some (decide (a0 ≤ a2))) else (some false)) = some r := h
 clear h
 by_cases c4 : a1 ≤ a0
 ·rw [if_pos c4] at H
  have c4b0 : decide (a1 ≤ a0) = true := decide_eq_true c4
  clear c4
  obtain rfl := Option.some.inj H
  go_enter Try.func33, Try.ntmps33
  go_wp2
  go_ret
  exact ⟨by first | rfl | (simp; done) | (simp [*]; done), by repeat (first | exact Drawn0.refl _ | apply Drawn0.step)⟩
 ·rw [if_neg c4] at H
  have c4b0 : decide (a1 ≤ a0) = false := decide_eq_false c4
  clear c4
  obtain rfl := Option.some.inj H
  go_enter Try.func33, Try.ntmps33
  go_wp2
  go_ret
  exact ⟨by first | rfl | (simp; done) | (simp [*]; done), by repeat (first | exact Drawn0.refl _ | apply Drawn0.step)⟩

/-! ### impl_isField: function 35 -/
mutual
def impl_isField.j0 : Nat → List (S47) → Int → Int → Int → Int → Int → Option (Bool)
 | 0, _, _, _, _, _, _ => none
 | k + 1, x1, x5, x102000, x102001, x102002, x102003 => (impl_InRange.f x102000 1 3).bind fun t102 => (if t102 = true then ((impl_InRange.f x102001 1 x5).bind fun t103 => (impl_isField.j1 k x1 (!t103) x102000 x102001 x102002 x102003)) else (impl_isField.j1 k x1 true x102000 x102001 x102002 x102003))
def impl_isField.j1 : Nat → List (S47) → Bool → Int → Int → Int → Int → Option (Bool)
 | 0, _, _, _, _, _, _ => none
 | k + 1, x1, x20, x102000, x102001, x102002, x102003 => if x20 = true then (some false) else (if x102002 = (-1) then (some (x102003 == 0)) else ((impl_InRange.f x102002 0 (wrap64 ((x1.length : Int) - 1))).bind fun t104 => (if t104 = true then (if 0 ≤ x102002 then (if x102002 < (x1.length : Int) then (if ((rd_T47 x1 x102002).f0) = 1 then (if ((rd_T47 x1 x102002).f2) = (-1) then ((impl_InRange.f x102003 0 ((rd_T47 x1 x102002).f1)).bind fun t107 => (some t107)) else (some false)) else (some false)) else (none)) else (none)) else (some false))))
end
def impl_isField.f (k : Nat) (a0_0 : Int) (a0_1 : Int) (a0_2 : Int) (a0_3 : Int) (l1 : List (S47)) : Option (Bool) := if a0_0 = 1 then (impl_isField.j0 k l1 99 a0_0 a0_1 a0_2 a0_3) else (impl_isField.j0 k l1 5 a0_0 a0_1 a0_2 a0_3)
theorem impl_isField.mono_l : ∀ k, (∀ y0 y1 y2 y3 y4 y5, LeO (impl_isField.j0 k y0 y1 y2 y3 y4 y5) (impl_isField.j0 (k + 1) y0 y1 y2 y3 y4 y5)) ∧ (∀ y0 y1 y2 y3 y4 y5, LeO (impl_isField.j1 k y0 y1 y2 y3 y4 y5) (impl_isField.j1 (k + 1) y0 y1 y2 y3 y4 y5))
 | 0 => ⟨fun _ _ _ _ _ _ r h => by simp [impl_isField.j0] at h, fun _ _ _ _ _ _ r h => by simp [impl_isField.j1] at h⟩
 | k + 1 => by
  obtain ⟨ih0, ih1⟩ := impl_isField.mono_l k
  refine ⟨?_, ?_⟩
  ·intro y0 y1 y2 y3 y4 y5
   unfold impl_isField.j0
   repeat' first
   | (with_reducible exact ih0 _ _ _ _ _ _)
   | (with_reducible exact ih1 _ _ _ _ _ _)
   | (with_reducible exact LeO.refl _)
   | (with_reducible exact LeO.none _)
   | (with_reducible refine LeO.ite ?_ ?_)
   | (with_reducible refine LeO.bind ?_ (fun _ => ?_))
   | exact ih0 _ _ _ _ _ _
   | exact ih1 _ _ _ _ _ _
   | exact LeO.none _
   | refine LeO.ite ?_ ?_
   | refine LeO.bind ?_ (fun _ => ?_)
  ·intro y0 y1 y2 y3 y4 y5
   unfold impl_isField.j1
   repeat' first
   | (with_reducible exact ih0 _ _ _ _ _ _)
   | (with_reducible exact ih1 _ _ _ _ _ _)
   | (with_reducible exact LeO.refl _)
   | (with_reducible exact LeO.none _)
   | (with_reducible refine LeO.ite ?_ ?_)
   | (with_reducible refine LeO.bind ?_ (fun _ => ?_))
   | exact ih0 _ _ _ _ _ _
   | exact ih1 _ _ _ _ _ _
   | exact LeO.none _
   | refine LeO.ite ?_ ?_
   | refine LeO.bind ?_ (fun _ => ?_)
theorem impl_isField.mono : ∀ a0 a1 a2 a3 a4 k, LeO (impl_isField.f k a0 a1 a2 a3 a4) (impl_isField.f (k + 1) a0 a1 a2 a3 a4) := by
 intro a0 a1 a2 a3 a4 k
 obtain ⟨ih0, ih1⟩ := impl_isField.mono_l k
 unfold impl_isField.f
 repeat' first
   | (with_reducible exact ih0 _ _ _ _ _ _)
   | (with_reducible exact ih1 _ _ _ _ _ _)
   | (with_reducible exact LeO.refl _)
   | (with_reducible exact LeO.none _)
   | (with_reducible refine LeO.ite ?_ ?_)
   | (with_reducible refine LeO.bind ?_ (fun _ => ?_))
   | exact ih0 _ _ _ _ _ _
   | exact ih1 _ _ _ _ _ _
   | exact LeO.none _
   | refine LeO.ite ?_ ?_
   | refine LeO.bind ?_ (fun _ => ?_)
set_option maxHeartbeats 8000000 in
set_option maxRecDepth 100000 in
theorem impl_isField.calls (k : Nat) (a0_0 : Int) (a0_1 : Int) (a0_2 : Int) (a0_3 : Int) (A1 : Option Addr) (c1 : Nat) (l1 : List (S47)) (r : Bool) (w : World) (hr1 : Kd.C k47 w A1 l1.length l1) (hc1 : l1.length ≤ c1) (h : impl_isField.f k a0_0 a0_1 a0_2 a0_3 l1 = some r) :
  Calls Try.prog 35 #[.agg #[.int .i64 a0_0, .int .i64 a0_1, .int .i64 a0_2, .int .i64 a0_3], .slice A1 l1.length c1] w fun e w' => e = .returned (.bool r) ∧ Below w.heap.size w w' := by
 have hu47 := Try.underlying47
 have HR1 := Aside0.mk hr1
 have HC1 := Aside0.mk hc1
 clear hr1 hc1
 have HB := Aside0.mk (Below.refl w.heap.size w)
 have H : (if a0_0 = 1 then (impl_isField.j0 k l1 99 a0_0 a0_1 a0_2 a0_3) else (impl_isField.j0 k l1 5 a0_0 a0_1 a0_2 a0_3)) = some r := h
 clear h
 have HC3 := Aside0.mk H
 clear H
 go_enter Try.func35, Try.ntmps35
 go_upto_if 9 with (first | ((with_reducible refine gate_dst (N := 2) rfl ?_); refine box_event ?hg (N := 2) ?hd (cs := #[.int .i64 a0_0, .int .i64 a0_1, .int .i64 a0_2, .int .i64 a0_3]) (t := 47) ?hr ?_; (case hd => rfl); (case hg => rfl); (case hr => first | (go_simp; done) | (go_simp; rfl)); intro gb101 hg w4 hbox hb; have BK101 := Aside0.mk (hbox); have GW101 := gS HB hg; have GE101 := gS HB hg; replace HB := bS HB hb; clear hb hbox hg; have hcz5_0 := bc0 BK101; have hcz5_1 := bc1 BK101; have hcz5_2 := bc2 BK101; have hcz5_3 := bc3 BK101; have hfz5_0 := bf BK101 0; have hfz5_1 := bf BK101 1; have hfz5_2 := bf BK101 2; have hfz5_3 := bf BK101 3))
 (try simp only [Act.put, List.setIfInBounds_toArray, List.set_cons_zero, List.set_cons_succ])
 go_cut [5] (fun v5 wc => ∃ (kq : Nat) (x5_2 : Int), v5 = .int .i64 x5_2 ∧ Aside0 (impl_isField.j0 kq l1 x5_2 a0_0 a0_1 a0_2 a0_3 = some r) ∧ Aside0 (kq ≤ k) ∧ Aside0 (wc.heap[gb101]? = some (.cells #[.int .i64 a0_0, .int .i64 a0_1, .int .i64 a0_2, .int .i64 a0_3] 47 (0, 0))) ∧ Aside0 (Below w.heap.size w wc))
 case first =>
  have H := HC3.out
  clear HC3
  by_cases c6 : a0_0 = 1
  ·rw [if_pos c6] at H
   have c6b0 : (a0_0 == 1) = true := beq_iff_eq.mpr c6
   have c6b1 : (a0_0 != 1) = false := bne_eq_false_iff_eq.mpr c6
   clear c6
   (first | rw [c6b0] | (simp only [i64_w, i32_w]; rw [c6b0]) | skip)
   have H' := Aside0.mk H
   clear H
   go_wp2
   go_meet
   case rel => exact ⟨_, (99), zF, H', ⟨by first | omega | exact Nat.le_refl _⟩, ⟨zK BK101⟩, ⟨zB HB⟩⟩
  ·rw [if_neg c6] at H
   have c6b0 : (a0_0 == 1) = false := beq_eq_false_iff_ne.mpr c6
   have c6b1 : (a0_0 != 1) = true := bne_iff_ne.mpr c6
   (first | rw [c6b0] | (simp only [i64_w, i32_w]; rw [c6b0]) | skip)
   have H' := Aside0.mk H
   clear H
   go_wp2
   go_meet
   case rel => exact ⟨_, (5), zF, H', ⟨by first | omega | exact Nat.le_refl _⟩, ⟨zK BK101⟩, ⟨zB HB⟩⟩
 case rest =>
  clear HC3
  try clear c1
  try clear p2
  try clear c3
  try clear c6
  try clear c6b0
  try clear c6b1
  try clear hcz5_0
  try clear hcz5_1
  try clear hcz5_2
  try clear hcz5_3
  try clear hfz5_0
  try clear hfz5_1
  try clear hfz5_2
  try clear hfz5_3
  obtain ⟨kq, x5_2, rfl, HA, HJ2, BK101, HB⟩ := hcut
  cases kq with
  | zero => exact absurd HA.out (by simp [impl_isField.j0])
  | succ kj2 =>
   have H := HA.out
   clear HA
   simp only [impl_isField.j0] at H
   have HC7 := Aside0.mk H
   clear H
   go_upto_region 4 with (fail)
   go_cut [20] (fun v20 wc => ∃ (kq : Nat) (x20_6 : Bool), v20 = .bool x20_6 ∧ Aside0 (impl_isField.j1 kq l1 x20_6 a0_0 a0_1 a0_2 a0_3 = some r) ∧ Aside0 (kq ≤ kj2) ∧ Aside0 (wc.heap[gb101]? = some (.cells #[.int .i64 a0_0, .int .i64 a0_1, .int .i64 a0_2, .int .i64 a0_3] 47 (0, 0))) ∧ Aside0 (Below w.heap.size w wc))
   case first =>
    have H := HC7.out
    clear HC7
    obtain ⟨t102, A8, H⟩ := bindS H
    by_cases c9 : t102 = true
    ·subst c9
     have H1 : ((impl_InRange.f a0_1 1 x5_2).bind fun t103 => (impl_isField.j1 kj2 l1 (!t103) a0_0 a0_1 a0_2 a0_3)) = some r := by rw [if_pos rfl] at H; exact H
     clear H
     have H := H1
     clear H1
     obtain ⟨t103, A10, H⟩ := bindS H
     have H' := Aside0.mk H
     clear H
     have hcz11_0 := bc0 BK101
     have hcz11_1 := bc1 BK101
     have hcz11_2 := bc2 BK101
     have hcz11_3 := bc3 BK101
     have hfz11_0 := bf BK101 0
     have hfz11_1 := bf BK101 1
     have hfz11_2 := bf BK101 2
     have hfz11_3 := bf BK101 3
     go_wp2_with (first | ((with_reducible refine gate_callee (f := 33) rfl ?_); refine goesL_ (some 12) rfl rfl Try.func33 (by kernel_rfl) rfl #[.int .i64 a0_0, .int .i64 1, .int .i64 3] rfl zG ?_; (with_reducible refine (impl_InRange.calls a0_0 1 3 true _ A8.out).mono ?_); rintro e w' ⟨rfl, ⟨nd, rfl⟩⟩; refine ⟨_, rfl, ?_⟩) | (go_at_call 33; (with_reducible refine (impl_InRange.calls a0_1 1 x5_2 t103 _ A10.out).mono ?_); rintro e w' ⟨rfl, ⟨nd, rfl⟩⟩))
     go_meet
     case rel => exact ⟨_, (!t103), zF, H', ⟨by have := HJ2.out; first | omega | exact Nat.le_refl _⟩, ⟨zK BK101⟩, ⟨zB HB⟩⟩
    ·replace c9 := Bool.eq_false_iff.mpr c9
     subst c9
     have H1 : (impl_isField.j1 kj2 l1 true a0_0 a0_1 a0_2 a0_3) = some r := by rw [if_neg (show ¬ (false = true) by decide)] at H; exact H
     clear H
     have H := H1
     clear H1
     have H' := Aside0.mk H
     clear H
     have hcz12_0 := bc0 BK101
     have hcz12_1 := bc1 BK101
     have hcz12_2 := bc2 BK101
     have hcz12_3 := bc3 BK101
     have hfz12_0 := bf BK101 0
     have hfz12_1 := bf BK101 1
     have hfz12_2 := bf BK101 2
     have hfz12_3 := bf BK101 3
     go_wp2_with (first | ((with_reducible refine gate_callee (f := 33) rfl ?_); refine goesL_ (some 12) rfl rfl Try.func33 (by kernel_rfl) rfl #[.int .i64 a0_0, .int .i64 1, .int .i64 3] rfl zG ?_; (with_reducible refine (impl_InRange.calls a0_0 1 3 false _ A8.out).mono ?_); rintro e w' ⟨rfl, ⟨nd, rfl⟩⟩; refine ⟨_, rfl, ?_⟩))
     go_meet
     case rel => exact ⟨_, (true), zF, H', ⟨by have := HJ2.out; first | omega | exact Nat.le_refl _⟩, ⟨zK BK101⟩, ⟨zB HB⟩⟩
   case rest =>
    clear HC7
    try clear c1
    try clear p2
    try clear c3
    try clear c6
    try clear c6b0
    try clear c6b1
    try clear c9
    try clear hcz11_0
    try clear hcz11_1
    try clear hcz11_2
    try clear hcz11_3
    try clear hcz12_0
    try clear hcz12_1
    try clear hcz12_2
    try clear hcz12_3
    try clear hcz5_0
    try clear hcz5_1
    try clear hcz5_2
    try clear hcz5_3
    try clear hfz11_0
    try clear hfz11_1
    try clear hfz11_2
    try clear hfz11_3
    try clear hfz12_0
    try clear hfz12_1
    try clear hfz12_2
    try clear hfz12_3
    try clear hfz5_0
    try clear hfz5_1
    try clear hfz5_2
    try clear hfz5_3
    try clear p2
    obtain ⟨kq, x20_6, rfl, HA, HJ6, BK101, HB⟩ := hcut
    cases kq with
    | zero => exact absurd HA.out (by simp [impl_isField.j1])
    | succ kj6 =>
     have H := HA.out
     clear HA
     simp only [impl_isField.j1] at H
     by_cases c13 : x20_6 = true
     ·subst c13
      have H1 : (some false) = some r := by rw [if_pos rfl] at H; exact H
      clear H
      have H := H1
      clear H1
      obtain rfl := Option.some.inj H
      go_wp2
      go_ret
      exact ⟨zE, zB HB⟩
     ·replace c13 := Bool.eq_false_iff.mpr c13
      subst c13
      have H1 : (if a0_2 = (-1) then (some (a0_3 == 0)) else ((impl_InRange.f a0_2 0 (wrap64 ((l1.length : Int) - 1))).bind fun t104 => (if t104 = true then (if 0 ≤ a0_2 then (if a0_2 < (l1.length : Int) then (if ((rd_T47 l1 a0_2).f0) = 1 then (if ((rd_T47 l1 a0_2).f2) = (-1) then ((impl_InRange.f a0_3 0 ((rd_T47 l1 a0_2).f1)).bind fun t107 => (some t107)) else (some false)) else (some false)) else (none)) else (none)) else (some false)))) = some r := by rw [if_neg (show ¬ (false = true) by decide)] at H; exact H
      clear H
      have H := H1
      clear H1
      by_cases c14 : a0_2 = (-1)
      ·rw [if_pos c14] at H
       have c14b0 : (a0_2 == (-1)) = true := beq_iff_eq.mpr c14
       have c14b1 : (a0_2 != (-1)) = false := bne_eq_false_iff_eq.mpr c14
       clear c14
       obtain rfl := Option.some.inj H
       have hcz15_0 := bc0 BK101
       have hcz15_1 := bc1 BK101
       have hcz15_2 := bc2 BK101
       have hcz15_3 := bc3 BK101
       have hfz15_0 := bf BK101 0
       have hfz15_1 := bf BK101 1
       have hfz15_2 := bf BK101 2
       have hfz15_3 := bf BK101 3
       go_wp2
       go_ret
       exact ⟨zE, zB HB⟩
      ·rw [if_neg c14] at H
       have c14b0 : (a0_2 == (-1)) = false := beq_eq_false_iff_ne.mpr c14
       have c14b1 : (a0_2 != (-1)) = true := bne_iff_ne.mpr c14
       obtain ⟨t104, A16, H⟩ := bindS H
       by_cases c17 : t104 = true
       ·subst c17
        have H1 : (if 0 ≤ a0_2 then (if a0_2 < (l1.length : Int) then (if ((rd_T47 l1 a0_2).f0) = 1 then (if ((rd_T47 l1 a0_2).f2) = (-1) then ((impl_InRange.f a0_3 0 ((rd_T47 l1 a0_2).f1)).bind fun t107 => (some t107)) else (some false)) else (some false)) else (none)) else (none)) = some r := by rw [if_pos rfl] at H; exact H
        clear H
        have H := H1
        clear H1
        obtain ⟨c18, H⟩ := ifS H
        have c18b0 : decide (0 ≤ a0_2) = true := decide_eq_true c18
        clear c18
        obtain ⟨c19, H⟩ := ifS H
        have c19b0 : decide (a0_2 < (l1.length : Int)) = true := decide_eq_true c19
        clear c19
        by_cases c20 : ((rd_T47 l1 a0_2).f0) = 1
        ·rw [if_pos c20] at H
         have c20b0 : (((rd_T47 l1 a0_2).f0) == 1) = true := beq_iff_eq.mpr c20
         have c20b1 : (((rd_T47 l1 a0_2).f0) != 1) = false := bne_eq_false_iff_eq.mpr c20
         clear c20
         by_cases c21 : ((rd_T47 l1 a0_2).f2) = (-1)
         ·rw [if_pos c21] at H
          have c21b0 : (((rd_T47 l1 a0_2).f2) == (-1)) = true := beq_iff_eq.mpr c21
          have c21b1 : (((rd_T47 l1 a0_2).f2) != (-1)) = false := bne_eq_false_iff_eq.mpr c21
          clear c21
          obtain ⟨t107, A22, H⟩ := bindS H
          obtain rfl := Option.some.inj H
          have hcz23_0 := bc0 BK101
          have hcz23_1 := bc1 BK101
          have hcz23_2 := bc2 BK101
          have hcz23_3 := bc3 BK101
          have hfz23_0 := bf BK101 0
          have hfz23_1 := bf BK101 1
          have hfz23_2 := bf BK101 2
          have hfz23_3 := bf BK101 3
          go_wp2_with (first | ((with_reducible refine gate_callee (f := 33) rfl ?_); refine goesL_ (some 32) rfl rfl Try.func33 (by kernel_rfl) rfl #[.int .i64 a0_2, .int .i64 0, .int .i64 (wrap64 ((l1.length : Int) - 1))] rfl zG ?_; (with_reducible refine (impl_InRange.calls a0_2 0 (wrap64 ((l1.length : Int) - 1)) true _ A16.out).mono ?_); rintro e w' ⟨rfl, ⟨nd, rfl⟩⟩; refine ⟨_, rfl, ?_⟩; (try (rw [drewN_self wc]; generalize hq_ : World.drewN wc _ = wc; have n0_ : Aside0 (wc.heap[gb101]? = some (.cells #[.int .i64 a0_0, .int .i64 a0_1, .int .i64 a0_2, .int .i64 a0_3] 47 (0, 0))) := ⟨by rw [← hq_]; exact (zK BK101)⟩; have n1_ : Aside0 (Below w.heap.size w wc) := ⟨by rw [← hq_]; exact (zB HB)⟩; clear BK101 HB hq_; have BK101 := n0_; have HB := n1_; clear n0_ n1_; have hcw101_0 : wc.cell? ⟨gb101, 0, none⟩ = some (.int .i64 a0_0) := bc0 BK101; have hfw101_0 := bf BK101 0; have hcw101_1 : wc.cell? ⟨gb101, 1, none⟩ = some (.int .i64 a0_1) := bc1 BK101; have hfw101_1 := bf BK101 1; have hcw101_2 : wc.cell? ⟨gb101, 2, none⟩ = some (.int .i64 a0_2) := bc2 BK101; have hfw101_2 := bf BK101 2; have hcw101_3 : wc.cell? ⟨gb101, 3, none⟩ = some (.int .i64 a0_3) := bc3 BK101; have hfw101_3 := bf BK101 3)); have p105 : 0 ≤ (a0_2 : Int) := zD; have q105 : a0_2 < (l1.length : Int) := zD; obtain ⟨ad105, e105, hx105_0, hx105_1, hx105_2, hx105_3⟩ := at_T47 HR1.out a0_2 p105 q105; cases e105; replace hx105_0 := hL HB hx105_0; replace hx105_1 := hL HB hx105_1; replace hx105_2 := hL HB hx105_2; replace hx105_3 := hL HB hx105_3; replace p105 := eq_true p105; replace q105 := eq_true q105) | ((with_reducible refine gate_dst (N := 6) rfl ?_); refine box_event ?hg (N := 6) ?hd (cs := #[.int .i64 0, .int .i64 0, .int .i64 0, .int .i64 0]) (t := 47) ?hr ?_; (case hd => rfl); (case hg => rfl); (case hr => first | (go_simp; done) | (go_simp; rfl)); intro gb106 hg w24 hbox hb; have BK106 := Aside0.mk (hbox); have GW106 := gS HB hg; have GE106 := gS HB hg; replace HB := bS HB hb; have NB101_106 := nL BK101 hg; have NB106_101 := nR BK101 hg; replace BK101 := kB BK101 hb; clear hb hbox hg; have hnb25 := NB106_101.out; have hnc25 := NB101_106.out; have hcz26_0 := bc0 BK106; have hcz26_1 := bc1 BK106; have hcz26_2 := bc2 BK106; have hcz26_3 := bc3 BK106; have hfz26_0 := bf BK106 0; have hfz26_1 := bf BK106 1; have hfz26_2 := bf BK106 2; have hfz26_3 := bf BK106 3; have hcz27_0 := bc0 BK101; have hcz27_1 := bc1 BK101; have hcz27_2 := bc2 BK101; have hcz27_3 := bc3 BK101; have hfz27_0 := bf BK101 0; have hfz27_1 := bf BK101 1; have hfz27_2 := bf BK101 2; have hfz27_3 := bf BK101 3) | (go_at_call 33; (with_reducible refine (impl_InRange.calls a0_3 0 ((rd_T47 l1 a0_2).f1) t107 _ A22.out).mono ?_); rintro e w' ⟨rfl, ⟨nd, rfl⟩⟩))
          go_ret
          exact ⟨zE, zB HB⟩
         ·rw [if_neg c21] at H
          have c21b0 : (((rd_T47 l1 a0_2).f2) == (-1)) = false := beq_eq_false_iff_ne.mpr c21
          have c21b1 : (((rd_T47 l1 a0_2).f2) != (-1)) = true := bne_iff_ne.mpr c21
          obtain rfl := Option.some.inj H
          have hcz28_0 := bc0 BK101
          have hcz28_1 := bc1 BK101
          have hcz28_2 := bc2 BK101
          have hcz28_3 := bc3 BK101
          have hfz28_0 := bf BK101 0
          have hfz28_1 := bf BK101 1
          have hfz28_2 := bf BK101 2
          have hfz28_3 := bf BK101 3
          go_wp2_with (first | ((with_reducible refine gate_callee (f := 33) rfl ?_); refine goesL_ (some 32) rfl rfl Try.func33 (by kernel_rfl) rfl #[.int .i64 a0_2, .int .i64 0, .int .i64 (wrap64 ((l1.length : Int) - 1))] rfl zG ?_; (with_reducible refine (impl_InRange.calls a0_2 0 (wrap64 ((l1.length : Int) - 1)) true _ A16.out).mono ?_); rintro e w' ⟨rfl, ⟨nd, rfl⟩⟩; refine ⟨_, rfl, ?_⟩; (try (rw [drewN_self wc]; generalize hq_ : World.drewN wc _ = wc; have n0_ : Aside0 (wc.heap[gb101]? = some (.cells #[.int .i64 a0_0, .int .i64 a0_1, .int .i64 a0_2, .int .i64 a0_3] 47 (0, 0))) := ⟨by rw [← hq_]; exact (zK BK101)⟩; have n1_ : Aside0 (Below w.heap.size w wc) := ⟨by rw [← hq_]; exact (zB HB)⟩; clear BK101 HB hq_; have BK101 := n0_; have HB := n1_; clear n0_ n1_; have hcw101_0 : wc.cell? ⟨gb101, 0, none⟩ = some (.int .i64 a0_0) := bc0 BK101; have hfw101_0 := bf BK101 0; have hcw101_1 : wc.cell? ⟨gb101, 1, none⟩ = some (.int .i64 a0_1) := bc1 BK101; have hfw101_1 := bf BK101 1; have hcw101_2 : wc.cell? ⟨gb101, 2, none⟩ = some (.int .i64 a0_2) := bc2 BK101; have hfw101_2 := bf BK101 2; have hcw101_3 : wc.cell? ⟨gb101, 3, none⟩ = some (.int .i64 a0_3) := bc3 BK101; have hfw101_3 := bf BK101 3)); have p105 : 0 ≤ (a0_2 : Int) := zD; have q105 : a0_2 < (l1.length : Int) := zD; obtain ⟨ad105, e105, hx105_0, hx105_1, hx105_2, hx105_3⟩ := at_T47 HR1.out a0_2 p105 q105; cases e105; replace hx105_0 := hL HB hx105_0; replace hx105_1 := hL HB hx105_1; replace hx105_2 := hL HB hx105_2; replace hx105_3 := hL HB hx105_3; replace p105 := eq_true p105; replace q105 := eq_true q105) | ((with_reducible refine gate_dst (N := 6) rfl ?_); refine box_event ?hg (N := 6) ?hd (cs := #[.int .i64 0, .int .i64 0, .int .i64 0, .int .i64 0]) (t := 47) ?hr ?_; (case hd => rfl); (case hg => rfl); (case hr => first | (go_simp; done) | (go_simp; rfl)); intro gb106 hg w29 hbox hb; have BK106 := Aside0.mk (hbox); have GW106 := gS HB hg; have GE106 := gS HB hg; replace HB := bS HB hb; have NB101_106 := nL BK101 hg; have NB106_101 := nR BK101 hg; replace BK101 := kB BK101 hb; clear hb hbox hg; have hnb30 := NB106_101.out; have hnc30 := NB101_106.out; have hcz31_0 := bc0 BK106; have hcz31_1 := bc1 BK106; have hcz31_2 := bc2 BK106; have hcz31_3 := bc3 BK106; have hfz31_0 := bf BK106 0; have hfz31_1 := bf BK106 1; have hfz31_2 := bf BK106 2; have hfz31_3 := bf BK106 3))
          go_ret
          exact ⟨zE, zB HB⟩
        ·rw [if_neg c20] at H
         have c20b0 : (((rd_T47 l1 a0_2).f0) == 1) = false := beq_eq_false_iff_ne.mpr c20
         have c20b1 : (((rd_T47 l1 a0_2).f0) != 1) = true := bne_iff_ne.mpr c20
         obtain rfl := Option.some.inj H
         have hcz32_0 := bc0 BK101
         have hcz32_1 := bc1 BK101
         have hcz32_2 := bc2 BK101
         have hcz32_3 := bc3 BK101
         have hfz32_0 := bf BK101 0
         have hfz32_1 := bf BK101 1
         have hfz32_2 := bf BK101 2
         have hfz32_3 := bf BK101 3
         go_wp2_with (first | ((with_reducible refine gate_callee (f := 33) rfl ?_); refine goesL_ (some 32) rfl rfl Try.func33 (by kernel_rfl) rfl #[.int .i64 a0_2, .int .i64 0, .int .i64 (wrap64 ((l1.length : Int) - 1))] rfl zG ?_; (with_reducible refine (impl_InRange.calls a0_2 0 (wrap64 ((l1.length : Int) - 1)) true _ A16.out).mono ?_); rintro e w' ⟨rfl, ⟨nd, rfl⟩⟩; refine ⟨_, rfl, ?_⟩; (try (rw [drewN_self wc]; generalize hq_ : World.drewN wc _ = wc; have n0_ : Aside0 (wc.heap[gb101]? = some (.cells #[.int .i64 a0_0, .int .i64 a0_1, .int .i64 a0_2, .int .i64 a0_3] 47 (0, 0))) := ⟨by rw [← hq_]; exact (zK BK101)⟩; have n1_ : Aside0 (Below w.heap.size w wc) := ⟨by rw [← hq_]; exact (zB HB)⟩; clear BK101 HB hq_; have BK101 := n0_; have HB := n1_; clear n0_ n1_; have hcw101_0 : wc.cell? ⟨gb101, 0, none⟩ = some (.int .i64 a0_0) := bc0 BK101; have hfw101_0 := bf BK101 0; have hcw101_1 : wc.cell? ⟨gb101, 1, none⟩ = some (.int .i64 a0_1) := bc1 BK101; have hfw101_1 := bf BK101 1; have hcw101_2 : wc.cell? ⟨gb101, 2, none⟩ = some (.int .i64 a0_2) := bc2 BK101; have hfw101_2 := bf BK101 2; have hcw101_3 : wc.cell? ⟨gb101, 3, none⟩ = some (.int .i64 a0_3) := bc3 BK101; have hfw101_3 := bf BK101 3)); have p105 : 0 ≤ (a0_2 : Int) := zD; have q105 : a0_2 < (l1.length : Int) := zD; obtain ⟨ad105, e105, hx105_0, hx105_1, hx105_2, hx105_3⟩ := at_T47 HR1.out a0_2 p105 q105; cases e105; replace hx105_0 := hL HB hx105_0; replace hx105_1 := hL HB hx105_1; replace hx105_2 := hL HB hx105_2; replace hx105_3 := hL HB hx105_3; replace p105 := eq_true p105; replace q105 := eq_true q105) | ((with_reducible refine gate_dst (N := 6) rfl ?_); refine box_event ?hg (N := 6) ?hd (cs := #[.int .i64 0, .int .i64 0, .int .i64 0, .int .i64 0]) (t := 47) ?hr ?_; (case hd => rfl); (case hg => rfl); (case hr => first | (go_simp; done) | (go_simp; rfl)); intro gb106 hg w33 hbox hb; have BK106 := Aside0.mk (hbox); have GW106 := gS HB hg; have GE106 := gS HB hg; replace HB := bS HB hb; have NB101_106 := nL BK101 hg; have NB106_101 := nR BK101 hg; replace BK101 := kB BK101 hb; clear hb hbox hg; have hnb34 := NB106_101.out; have hnc34 := NB101_106.out; have hcz35_0 := bc0 BK106; have hcz35_1 := bc1 BK106; have hcz35_2 := bc2 BK106; have hcz35_3 := bc3 BK106; have hfz35_0 := bf BK106 0; have hfz35_1 := bf BK106 1; have hfz35_2 := bf BK106 2; have hfz35_3 := bf BK106 3))
         go_ret
         exact ⟨zE, zB HB⟩
       ·replace c17 := Bool.eq_false_iff.mpr c17
        subst c17
        have H1 : (some false) = some r := by rw [if_neg (show ¬ (false = true) by decide)] at H; exact H
        clear H
        have H := H1
        clear H1
        obtain rfl := Option.some.inj H
        have hcz36_0 := bc0 BK101
        have hcz36_1 := bc1 BK101
        have hcz36_2 := bc2 BK101
        have hcz36_3 := bc3 BK101
        have hfz36_0 := bf BK101 0
        have hfz36_1 := bf BK101 1
        have hfz36_2 := bf BK101 2
        have hfz36_3 := bf BK101 3
        go_wp2_with (first | ((with_reducible refine gate_callee (f := 33) rfl ?_); refine goesL_ (some 32) rfl rfl Try.func33 (by kernel_rfl) rfl #[.int .i64 a0_2, .int .i64 0, .int .i64 (wrap64 ((l1.length : Int) - 1))] rfl zG ?_; (with_reducible refine (impl_InRange.calls a0_2 0 (wrap64 ((l1.length : Int) - 1)) false _ A16.out).mono ?_); rintro e w' ⟨rfl, ⟨nd, rfl⟩⟩; refine ⟨_, rfl, ?_⟩))
        go_ret
        exact ⟨zE, zB HB⟩

/-! ### impl_IsFormat: function 17 -/
def impl_IsFormat.l0 : Nat → List (S47) → List (S47) → Int → Int → Option (Bool)
 | 0, _, _, _, _ => none
 | k + 1, x0, x5, x6, x7 => if x7 < x6 then (if 0 ≤ x7 then (if x7 < (x5.length : Int) then (if x7 ≤ (x0.length : Int) then ((impl_isField.f k ((rd_T47 x5 x7).f0) ((rd_T47 x5 x7).f1) ((rd_T47 x5 x7).f2) ((rd_T47 x5 x7).f3) (x0.take (x7 : Int).toNat)).bind fun t114 => (if t114 = true then (impl_IsFormat.l0 k x0 x5 x6 (wrap64 (x7 + 1))) else (some false))) else (none)) else (none)) else (none)) else ((impl_InRange.f (x0.length : Int) 1 6).bind fun t115 => (some t115))
def impl_IsFormat.f (k : Nat) (l0 : List (S47)) : Option (Bool) := impl_IsFormat.l0 k l0 l0 (l0.length : Int) 0
theorem impl_IsFormat.mono_l : ∀ k, (∀ y0 y1 y2 y3, LeO (impl_IsFormat.l0 k y0 y1 y2 y3) (impl_IsFormat.l0 (k + 1) y0 y1 y2 y3))
 | 0 => fun _ _ _ _ r h => by simp [impl_IsFormat.l0] at h
 | k + 1 => by
  have ih0 := impl_IsFormat.mono_l k
  ·intro y0 y1 y2 y3
   unfold impl_IsFormat.l0
   repeat' first
   | (with_reducible exact ih0 _ _ _ _)
   | (with_reducible exact impl_isField.mono _ _ _ _ _ _)
   | (with_reducible exact LeO.refl _)
   | (with_reducible exact LeO.none _)
   | (with_reducible refine LeO.ite ?_ ?_)
   | (with_reducible refine LeO.bind ?_ (fun _ => ?_))
   | exact ih0 _ _ _ _
   | exact impl_isField.mono _ _ _ _ _ _
   | exact LeO.none _
   | refine LeO.ite ?_ ?_
   | refine LeO.bind ?_ (fun _ => ?_)
theorem impl_IsFormat.mono : ∀ a0 k, LeO (impl_IsFormat.f k a0) (impl_IsFormat.f (k + 1) a0) := by
 intro a0 k
 have ih0 := impl_IsFormat.mono_l k
 unfold impl_IsFormat.f
 repeat' first
   | (with_reducible exact ih0 _ _ _ _)
   | (with_reducible exact impl_isField.mono _ _ _ _ _ _)
   | (with_reducible exact LeO.refl _)
   | (with_reducible exact LeO.none _)
   | (with_reducible refine LeO.ite ?_ ?_)
   | (with_reducible refine LeO.bind ?_ (fun _ => ?_))
   | exact ih0 _ _ _ _
   | exact impl_isField.mono _ _ _ _ _ _
   | exact LeO.none _
   | refine LeO.ite ?_ ?_
   | refine LeO.bind ?_ (fun _ => ?_)
set_option maxHeartbeats 8000000 in
set_option maxRecDepth 100000 in
theorem impl_IsFormat.calls (k : Nat) (A0 : Option Addr) (c0 : Nat) (l0 : List (S47)) (r : Bool) (w : World) (hr0 : Kd.C k47 w A0 l0.length l0) (hc0 : l0.length ≤ c0) (h : impl_IsFormat.f k l0 = some r) :
  Calls Try.prog 17 #[.slice A0 l0.length c0] w fun e w' => e = .returned (.bool r) ∧ Below w.heap.size w w' := by
 have hu47 := Try.underlying47
 have HR0 := Aside0.mk hr0
 have HC0 := Aside0.mk hc0
 clear hr0 hc0
 have HB := Aside0.mk (Below.refl w.heap.size w)
 have H : (impl_IsFormat.l0 k l0 l0 (l0.length : Int) 0) = some r := h
 clear h
 have H' := Aside0.mk H
 clear H
 go_enter Try.func17, Try.ntmps17
 go_wp2
 go_loopg [7] k (fun kq v7 w' => ∃ (x7_1 : Int), v7 = .int .i64 x7_1 ∧ Aside0 (impl_IsFormat.l0 kq l0 l0 (l0.length : Int) x7_1 = some r) ∧ Aside0 (kq ≤ k) ∧ Aside0 (Below w.heap.size w w'))
 case atStart => exact ⟨(0), zF, H', ⟨Nat.le_refl _⟩, ⟨zB HB⟩⟩
 case round =>
  clear H'
  try clear c1
  obtain ⟨x7_1, rfl, HA, HK1, HB⟩ := hrel
  cases gk with
  | zero => exact absurd HA.out (by simp [impl_IsFormat.l0])
  | succ k1 =>
   have H := HA.out
   clear HA
   simp only [impl_IsFormat.l0] at H
   by_cases c2 : x7_1 < (l0.length : Int)
   ·rw [if_pos c2] at H
    have c2b0 : decide (x7_1 < (l0.length : Int)) = true := decide_eq_true c2
    clear c2
    obtain ⟨c3, H⟩ := ifS H
    have c3b0 : decide (0 ≤ x7_1) = true := decide_eq_true c3
    clear c3
    obtain ⟨c4, H⟩ := ifS H
    have c4b0 : decide (x7_1 < (l0.length : Int)) = true := decide_eq_true c4
    clear c4
    have c5b0 := eq_true (zD : 0 ≤ x7_1)
    obtain ⟨c6, H⟩ := ifS H
    have c6b0 := eq_true c6
    have c6b1 : decide (x7_1 ≤ (l0.length : Int)) = true := decide_eq_true c6
    clear c6
    obtain ⟨y110, hy110⟩ : ∃ y_ : List (S47), y_ = (l0.take (x7_1 : Int).toNat) := ⟨_, rfl⟩
    replace H : ((impl_isField.f k1 ((rd_T47 l0 x7_1).f0) ((rd_T47 l0 x7_1).f1) ((rd_T47 l0 x7_1).f2) ((rd_T47 l0 x7_1).f3) y110).bind fun t114 => (if t114 = true then (impl_IsFormat.l0 k1 l0 l0 (l0.length : Int) (wrap64 (x7_1 + 1))) else (some false))) = some r := by first | (rw [hy110]; with_reducible exact H) | (have H2_ := (Option.bind_some _ _).symm.trans H; rw [hy110]; with_reducible exact H2_) | (have H2_ := (Option.bind_some _ _).symm.trans H; with_reducible exact H2_) | with_reducible exact H | (rw [hy110]; exact H) | exact H
    have Ny110 := Aside0.mk hy110
    clear hy110
    obtain ⟨t114, A7, H⟩ := bindS H
    by_cases c8 : t114 = true
    ·subst c8
     have H1 : (impl_IsFormat.l0 k1 l0 l0 (l0.length : Int) (wrap64 (x7_1 + 1))) = some r := by rw [if_pos rfl] at H; exact H
     clear H
     have H := H1
     clear H1
     have H' := Aside0.mk H
     clear H
     have p108 : 0 ≤ (x7_1 : Int) := zD
     have q108 : x7_1 < (l0.length : Int) := zD
     obtain ⟨ad108, e108, hx108_0, hx108_1, hx108_2, hx108_3⟩ := at_T47 HR0.out x7_1 p108 q108
     cases e108
     replace hx108_0 := hL HB hx108_0
     replace hx108_1 := hL HB hx108_1
     replace hx108_2 := hL HB hx108_2
     replace hx108_3 := hL HB hx108_3
     replace p108 := eq_true p108
     replace q108 := eq_true q108
     try go_wp2_with (first | ((with_reducible refine gate_dst (N := 4) rfl ?_); refine box_event ?hg (N := 4) ?hd (cs := #[.int .i64 0, .int .i64 0, .int .i64 0, .int .i64 0]) (t := 47) ?hr ?_; (case hd => rfl); (case hg => rfl); (case hr => first | (go_simp; done) | (go_simp; rfl)); intro gb109 hg w9 hbox hb; have BK109 := Aside0.mk (hbox); have GW109 := gS HB hg; have GE109 := gS HB hg; replace HB := bS HB hb; clear hb hbox hg; have hcz10_0 := bc0 BK109; have hcz10_1 := bc1 BK109; have hcz10_2 := bc2 BK109; have hcz10_3 := bc3 BK109; have hfz10_0 := bf BK109 0; have hfz10_1 := bf BK109 1; have hfz10_2 := bf BK109 2; have hfz10_3 := bf BK109 3))
     have n0_ : Aside0 (((((w9.setCell ⟨gb109, 0, none⟩ (.int .i64 ((rd_T47 l0 x7_1).f0))).setCell ⟨gb109, 1, none⟩ (.int .i64 ((rd_T47 l0 x7_1).f1))).setCell ⟨gb109, 2, none⟩ (.int .i64 ((rd_T47 l0 x7_1).f2))).setCell ⟨gb109, 3, none⟩ (.int .i64 ((rd_T47 l0 x7_1).f3))).heap[gb109]? = some (.cells #[.int .i64 ((rd_T47 l0 x7_1).f0), .int .i64 ((rd_T47 l0 x7_1).f1), .int .i64 ((rd_T47 l0 x7_1).f2), .int .i64 ((rd_T47 l0 x7_1).f3)] 47 (0, 0))) := ⟨by (with_reducible repeat (first | refine blk_drewN ?_ _ | refine blk_drew ?_ | refine blk_alloc ?_ _)); refine blk_put (cs := #[.int .i64 ((rd_T47 l0 x7_1).f0), .int .i64 ((rd_T47 l0 x7_1).f1), .int .i64 ((rd_T47 l0 x7_1).f2), .int .i64 0]) ?_ 3 _ rfl; (with_reducible repeat (first | refine blk_drewN ?_ _ | refine blk_drew ?_ | refine blk_alloc ?_ _)); refine blk_put (cs := #[.int .i64 ((rd_T47 l0 x7_1).f0), .int .i64 ((rd_T47 l0 x7_1).f1), .int .i64 0, .int .i64 0]) ?_ 2 _ rfl; (with_reducible repeat (first | refine blk_drewN ?_ _ | refine blk_drew ?_ | refine blk_alloc ?_ _)); refine blk_put (cs := #[.int .i64 ((rd_T47 l0 x7_1).f0), .int .i64 0, .int .i64 0, .int .i64 0]) ?_ 1 _ rfl; (with_reducible repeat (first | refine blk_drewN ?_ _ | refine blk_drew ?_ | refine blk_alloc ?_ _)); refine blk_put (cs := #[.int .i64 0, .int .i64 0, .int .i64 0, .int .i64 0]) ?_ 0 _ rfl; (with_reducible repeat (first | refine blk_drewN ?_ _ | refine blk_drew ?_ | refine blk_alloc ?_ _)); exact BK109.out⟩
     have n1_ : Aside0 (Below w.heap.size w ((((w9.setCell ⟨gb109, 0, none⟩ (.int .i64 ((rd_T47 l0 x7_1).f0))).setCell ⟨gb109, 1, none⟩ (.int .i64 ((rd_T47 l0 x7_1).f1))).setCell ⟨gb109, 2, none⟩ (.int .i64 ((rd_T47 l0 x7_1).f2))).setCell ⟨gb109, 3, none⟩ (.int .i64 ((rd_T47 l0 x7_1).f3)))) := ⟨zB HB⟩
     (try clear BK109)
     (try clear HB)
     generalize ((((w9.setCell ⟨gb109, 0, none⟩ (.int .i64 ((rd_T47 l0 x7_1).f0))).setCell ⟨gb109, 1, none⟩ (.int .i64 ((rd_T47 l0 x7_1).f1))).setCell ⟨gb109, 2, none⟩ (.int .i64 ((rd_T47 l0 x7_1).f2))).setCell ⟨gb109, 3, none⟩ (.int .i64 ((rd_T47 l0 x7_1).f3))) = w11 at n0_ n1_ ⊢
     have BK109 := n0_
     have HB := n1_
     clear n0_ n1_
     replace BK109 := Aside0.mk (blk_drew BK109.out)
     replace HB := Aside0.mk (below_drew1 HB.out)
     have q13 : (x7_1 : Int) ≤ ((l0.length : Int) : Int) := zD
     obtain ⟨i013, hi013, _, hsz13, _⟩ := info_parts info47
     have hroom13 : l0.length ≤ c0 := HC0.out
     have hC13 : Kd.C k47 _ (some ad108) l0.length l0 := HR0.out
     have hcut13 := cut_to (P := Try.prog) 25 47 .i64 Try.underlying25 hi013 (some ad108) l0.length c0 x7_1 (zD) q13 hroom13
     have hr13 := Kd.C_take (m := (x7_1 : Int).toNat) hC13 (by omega)
     have hy13 : y110.length = (x7_1 : Int).toNat := (by rw [Ny110.out, List.length_take]; omega)
     rw [← Ny110.out] at hr13
     rw [← hy13] at hcut13
     have HR113 := Aside0.mk hr13
     have HC113 := Aside0.mk (show y110.length ≤ c0 from by omega)
     clear hr13 hC13 hroom13 hi013 hsz13
     have KY13 := Aside0.mk hy13
     clear hy13
     replace q13 := eq_true q13
     refine start_ (n := 6) (S := fun w' => w'.cell? ⟨gb109, 0, none⟩ = some (.int .i64 ((rd_T47 l0 x7_1).f0)) ∧ w'.cell? ⟨gb109, 1, none⟩ = some (.int .i64 ((rd_T47 l0 x7_1).f1)) ∧ w'.cell? ⟨gb109, 2, none⟩ = some (.int .i64 ((rd_T47 l0 x7_1).f2)) ∧ w'.cell? ⟨gb109, 3, none⟩ = some (.int .i64 ((rd_T47 l0 x7_1).f3))) (ds := []) (bm 6 0) (by kernel_rfl) rfl (bm0 _) ⟨bc0 BK109, bc1 BK109, bc2 BK109, bc3 BK109⟩ (fun hHeld => ?_)
     generalize w11.drew = w12 at BK109 HB HR113 hHeld ⊢
     refine pure_ (i := 1) (N := some 13) (v := ?_) (a' := ?_) (bm 6 2) rfl rfl (by kernel_rfl) (fun _ _ _ h => h) (Or.inl ⟨by rfl, ?_⟩) ?_ ?_
     rotate_left
     ·intro w'
      go_simp
      with_reducible rfl
     rotate_left
     ·simp only [Act.put, List.setIfInBounds_toArray, List.set_cons_zero, List.set_cons_succ, i64_w, i32_w]
      rfl
     refine pure_ (i := 2) (N := some 14) (v := ?_) (a' := ?_) (bm 6 6) rfl rfl (by kernel_rfl) (fun _ _ _ h => h) (Or.inl ⟨by rfl, ?_⟩) ?_ ?_
     rotate_left
     ·intro w'
      go_simp
      with_reducible rfl
     rotate_left
     ·simp only [Act.put, List.setIfInBounds_toArray, List.set_cons_zero, List.set_cons_succ, i64_w, i32_w]
      rfl
     refine pure_ (i := 3) (N := some 15) (v := ?_) (a' := ?_) (bm 6 14) rfl rfl (by kernel_rfl) (fun _ _ _ h => h) (Or.inl ⟨by rfl, ?_⟩) ?_ ?_
     rotate_left
     ·intro w'
      go_simp
      with_reducible rfl
     rotate_left
     ·simp only [Act.put, List.setIfInBounds_toArray, List.set_cons_zero, List.set_cons_succ, i64_w, i32_w]
      rfl
     refine take_ (i := 0) (N := some 12) (v := ?_) (a' := ?_) (bm 6 15) rfl rfl (by kernel_rfl) (fun _ _ _ h => h) (Or.inl ⟨by rfl, ?_⟩) hHeld ?_ ?_
     rotate_left
     ·rintro w' ⟨s0, s1, s2, s3⟩
      go_simp
      with_reducible rfl
     rotate_left
     ·simp only [Act.put, List.setIfInBounds_toArray, List.set_cons_zero, List.set_cons_succ, i64_w, i32_w]
      rfl
     refine one_ (i := 4) (N := some 16) (bm 6 31) rfl rfl (by kernel_rfl) (by decide) (fun K hK => ?_)
     refine goes_ Try.func35 (by kernel_rfl) rfl #[.agg #[.int .i64 ((rd_T47 l0 x7_1).f0), .int .i64 ((rd_T47 l0 x7_1).f1), .int .i64 ((rd_T47 l0 x7_1).f2), .int .i64 ((rd_T47 l0 x7_1).f3)], .slice (some ad108) y110.length c0] (by rfl) rfl rfl zG ?_
     with_reducible refine (impl_isField.calls k1 ((rd_T47 l0 x7_1).f0) ((rd_T47 l0 x7_1).f1) ((rd_T47 l0 x7_1).f2) ((rd_T47 l0 x7_1).f3) _ _ y110 true _ ?side1 ?side2 A7.out).mono ?_
     (case side1 => exact cS HR113 HB)
     (case side2 => exact HC113.out)
     rintro e w14 ⟨rfl, hb⟩
     refine ⟨_, rfl, ?_⟩
     replace BK109 := kB BK109 hb
     replace HB := bS HB hb
     (try clear hb)
     (try clear hb2)
     (try clear hk)
     (try clear hi)
     refine hK.out _ _ ⟨bc0 BK109, bc1 BK109, bc2 BK109, bc3 BK109⟩ (fun hHeld => ?_)
     clear hK K
     refine norm_ (a' := ?_) ?_ ?_
     rotate_left
     ·show Act.put _ (some 16) _ = _
      simp only [Act.put, List.setIfInBounds_toArray, List.set_cons_zero, List.set_cons_succ, i64_w, i32_w]
      rfl
     refine pure_ (i := 5) (N := some 17) (v := ?_) (a' := ?_) (bm 6 63) rfl rfl (by kernel_rfl) (fun _ _ _ h => h) (Or.inl ⟨by rfl, ?_⟩) ?_ ?_
     rotate_left
     ·intro w'
      go_simp
      with_reducible rfl
     rotate_left
     ·simp only [Act.put, List.setIfInBounds_toArray, List.set_cons_zero, List.set_cons_succ, i64_w, i32_w]
      rfl
     refine done_ (by kernel_rfl) ?_
     try clear hHeld
     try go_wp2
     go_roundg k1
     case measure => have := HK1.out; omega
     case rel => exact ⟨(wrap64 (x7_1 + 1)), zF, H', ⟨by have := HK1.out; omega⟩, ⟨zB HB⟩⟩
    ·replace c8 := Bool.eq_false_iff.mpr c8
     subst c8
     have H1 : (some false) = some r := by rw [if_neg (show ¬ (false = true) by decide)] at H; exact H
     clear H
     have H := H1
     clear H1
     obtain rfl := Option.some.inj H
     have p108 : 0 ≤ (x7_1 : Int) := zD
     have q108 : x7_1 < (l0.length : Int) := zD
     obtain ⟨ad108, e108, hx108_0, hx108_1, hx108_2, hx108_3⟩ := at_T47 HR0.out x7_1 p108 q108
     cases e108
     replace hx108_0 := hL HB hx108_0
     replace hx108_1 := hL HB hx108_1
     replace hx108_2 := hL HB hx108_2
     replace hx108_3 := hL HB hx108_3
     replace p108 := eq_true p108
     replace q108 := eq_true q108
     try go_wp2_with (first | ((with_reducible refine gate_dst (N := 4) rfl ?_); refine box_event ?hg (N := 4) ?hd (cs := #[.int .i64 0, .int .i64 0, .int .i64 0, .int .i64 0]) (t := 47) ?hr ?_; (case hd => rfl); (case hg => rfl); (case hr => first | (go_simp; done) | (go_simp; rfl)); intro gb109 hg w15 hbox hb; have BK109 := Aside0.mk (hbox); have GW109 := gS HB hg; have GE109 := gS HB hg; replace HB := bS HB hb; clear hb hbox hg; have hcz16_0 := bc0 BK109; have hcz16_1 := bc1 BK109; have hcz16_2 := bc2 BK109; have hcz16_3 := bc3 BK109; have hfz16_0 := bf BK109 0; have hfz16_1 := bf BK109 1; have hfz16_2 := bf BK109 2; have hfz16_3 := bf BK109 3))
     have n0_ : Aside0 (((((w15.setCell ⟨gb109, 0, none⟩ (.int .i64 ((rd_T47 l0 x7_1).f0))).setCell ⟨gb109, 1, none⟩ (.int .i64 ((rd_T47 l0 x7_1).f1))).setCell ⟨gb109, 2, none⟩ (.int .i64 ((rd_T47 l0 x7_1).f2))).setCell ⟨gb109, 3, none⟩ (.int .i64 ((rd_T47 l0 x7_1).f3))).heap[gb109]? = some (.cells #[.int .i64 ((rd_T47 l0 x7_1).f0), .int .i64 ((rd_T47 l0 x7_1).f1), .int .i64 ((rd_T47 l0 x7_1).f2), .int .i64 ((rd_T47 l0 x7_1).f3)] 47 (0, 0))) := ⟨by (with_reducible repeat (first | refine blk_drewN ?_ _ | refine blk_drew ?_ | refine blk_alloc ?_ _)); refine blk_put (cs := #[.int .i64 ((rd_T47 l0 x7_1).f0), .int .i64 ((rd_T47 l0 x7_1).f1), .int .i64 ((rd_T47 l0 x7_1).f2), .int .i64 0]) ?_ 3 _ rfl; (with_reducible repeat (first | refine blk_drewN ?_ _ | refine blk_drew ?_ | refine blk_alloc ?_ _)); refine blk_put (cs := #[.int .i64 ((rd_T47 l0 x7_1).f0), .int .i64 ((rd_T47 l0 x7_1).f1), .int .i64 0, .int .i64 0]) ?_ 2 _ rfl; (with_reducible repeat (first | refine blk_drewN ?_ _ | refine blk_drew ?_ | refine blk_alloc ?_ _)); refine blk_put (cs := #[.int .i64 ((rd_T47 l0 x7_1).f0), .int .i64 0, .int .i64 0, .int .i64 0]) ?_ 1 _ rfl; (with_reducible repeat (first | refine blk_drewN ?_ _ | refine blk_drew ?_ | refine blk_alloc ?_ _)); refine blk_put (cs := #[.int .i64 0, .int .i64 0, .int .i64 0, .int .i64 0]) ?_ 0 _ rfl; (with_reducible repeat (first | refine blk_drewN ?_ _ | refine blk_drew ?_ | refine blk_alloc ?_ _)); exact BK109.out⟩
     have n1_ : Aside0 (Below w.heap.size w ((((w15.setCell ⟨gb109, 0, none⟩ (.int .i64 ((rd_T47 l0 x7_1).f0))).setCell ⟨gb109, 1, none⟩ (.int .i64 ((rd_T47 l0 x7_1).f1))).setCell ⟨gb109, 2, none⟩ (.int .i64 ((rd_T47 l0 x7_1).f2))).setCell ⟨gb109, 3, none⟩ (.int .i64 ((rd_T47 l0 x7_1).f3)))) := ⟨zB HB⟩
     (try clear BK109)
     (try clear HB)
     generalize ((((w15.setCell ⟨gb109, 0, none⟩ (.int .i64 ((rd_T47 l0 x7_1).f0))).setCell ⟨gb109, 1, none⟩ (.int .i64 ((rd_T47 l0 x7_1).f1))).setCell ⟨gb109, 2, none⟩ (.int .i64 ((rd_T47 l0 x7_1).f2))).setCell ⟨gb109, 3, none⟩ (.int .i64 ((rd_T47 l0 x7_1).f3))) = w17 at n0_ n1_ ⊢
     have BK109 := n0_
     have HB := n1_
     clear n0_ n1_
     replace BK109 := Aside0.mk (blk_drew BK109.out)
     replace HB := Aside0.mk (below_drew1 HB.out)
     have q19 : (x7_1 : Int) ≤ ((l0.length : Int) : Int) := zD
     obtain ⟨i019, hi019, _, hsz19, _⟩ := info_parts info47
     have hroom19 : l0.length ≤ c0 := HC0.out
     have hC19 : Kd.C k47 _ (some ad108) l0.length l0 := HR0.out
     have hcut19 := cut_to (P := Try.prog) 25 47 .i64 Try.underlying25 hi019 (some ad108) l0.length c0 x7_1 (zD) q19 hroom19
     have hr19 := Kd.C_take (m := (x7_1 : Int).toNat) hC19 (by omega)
     have hy19 : y110.length = (x7_1 : Int).toNat := (by rw [Ny110.out, List.length_take]; omega)
     rw [← Ny110.out] at hr19
     rw [← hy19] at hcut19
     have HR113 := Aside0.mk hr19
     have HC113 := Aside0.mk (show y110.length ≤ c0 from by omega)
     clear hr19 hC19 hroom19 hi019 hsz19
     have KY19 := Aside0.mk hy19
     clear hy19
     replace q19 := eq_true q19
     refine start_ (n := 6) (S := fun w' => w'.cell? ⟨gb109, 0, none⟩ = some (.int .i64 ((rd_T47 l0 x7_1).f0)) ∧ w'.cell? ⟨gb109, 1, none⟩ = some (.int .i64 ((rd_T47 l0 x7_1).f1)) ∧ w'.cell? ⟨gb109, 2, none⟩ = some (.int .i64 ((rd_T47 l0 x7_1).f2)) ∧ w'.cell? ⟨gb109, 3, none⟩ = some (.int .i64 ((rd_T47 l0 x7_1).f3))) (ds := []) (bm 6 0) (by kernel_rfl) rfl (bm0 _) ⟨bc0 BK109, bc1 BK109, bc2 BK109, bc3 BK109⟩ (fun hHeld => ?_)
     generalize w17.drew = w18 at BK109 HB HR113 hHeld ⊢
     refine pure_ (i := 1) (N := some 13) (v := ?_) (a' := ?_) (bm 6 2) rfl rfl (by kernel_rfl) (fun _ _ _ h => h) (Or.inl ⟨by rfl, ?_⟩) ?_ ?_
     rotate_left
     ·intro w'
      go_simp
      with_reducible rfl
     rotate_left
     ·simp only [Act.put, List.setIfInBounds_toArray, List.set_cons_zero, List.set_cons_succ, i64_w, i32_w]
      rfl
     refine pure_ (i := 2) (N := some 14) (v := ?_) (a' := ?_) (bm 6 6) rfl rfl (by kernel_rfl) (fun _ _ _ h => h) (Or.inl ⟨by rfl, ?_⟩) ?_ ?_
     rotate_left
     ·intro w'
      go_simp
      with_reducible rfl
     rotate_left
     ·simp only [Act.put, List.setIfInBounds_toArray, List.set_cons_zero, List.set_cons_succ, i64_w, i32_w]
      rfl
     refine pure_ (i := 3) (N := some 15) (v := ?_) (a' := ?_) (bm 6 14) rfl rfl (by kernel_rfl) (fun _ _ _ h => h) (Or.inl ⟨by rfl, ?_⟩) ?_ ?_
     rotate_left
     ·intro w'
      go_simp
      with_reducible rfl
     rotate_left
     ·simp only [Act.put, List.setIfInBounds_toArray, List.set_cons_zero, List.set_cons_succ, i64_w, i32_w]
      rfl
     refine take_ (i := 0) (N := some 12) (v := ?_) (a' := ?_) (bm 6 15) rfl rfl (by kernel_rfl) (fun _ _ _ h => h) (Or.inl ⟨by rfl, ?_⟩) hHeld ?_ ?_
     rotate_left
     ·rintro w' ⟨s0, s1, s2, s3⟩
      go_simp
      with_reducible rfl
     rotate_left
     ·simp only [Act.put, List.setIfInBounds_toArray, List.set_cons_zero, List.set_cons_succ, i64_w, i32_w]
      rfl
     refine one_ (i := 4) (N := some 16) (bm 6 31) rfl rfl (by kernel_rfl) (by decide) (fun K hK => ?_)
     refine goes_ Try.func35 (by kernel_rfl) rfl #[.agg #[.int .i64 ((rd_T47 l0 x7_1).f0), .int .i64 ((rd_T47 l0 x7_1).f1), .int .i64 ((rd_T47 l0 x7_1).f2), .int .i64 ((rd_T47 l0 x7_1).f3)], .slice (some ad108) y110.length c0] (by rfl) rfl rfl zG ?_
     with_reducible refine (impl_isField.calls k1 ((rd_T47 l0 x7_1).f0) ((rd_T47 l0 x7_1).f1) ((rd_T47 l0 x7_1).f2) ((rd_T47 l0 x7_1).f3) _ _ y110 false _ ?side1 ?side2 A7.out).mono ?_
     (case side1 => exact cS HR113 HB)
     (case side2 => exact HC113.out)
     rintro e w20 ⟨rfl, hb⟩
     refine ⟨_, rfl, ?_⟩
     replace BK109 := kB BK109 hb
     replace HB := bS HB hb
     (try clear hb)
     (try clear hb2)
     (try clear hk)
     (try clear hi)
     refine hK.out _ _ ⟨bc0 BK109, bc1 BK109, bc2 BK109, bc3 BK109⟩ (fun hHeld => ?_)
     clear hK K
     refine norm_ (a' := ?_) ?_ ?_
     rotate_left
     ·show Act.put _ (some 16) _ = _
      simp only [Act.put, List.setIfInBounds_toArray, List.set_cons_zero, List.set_cons_succ, i64_w, i32_w]
      rfl
     refine pure_ (i := 5) (N := some 17) (v := ?_) (a' := ?_) (bm 6 63) rfl rfl (by kernel_rfl) (fun _ _ _ h => h) (Or.inl ⟨by rfl, ?_⟩) ?_ ?_
     rotate_left
     ·intro w'
      go_simp
      with_reducible rfl
     rotate_left
     ·simp only [Act.put, List.setIfInBounds_toArray, List.set_cons_zero, List.set_cons_succ, i64_w, i32_w]
      rfl
     refine done_ (by kernel_rfl) ?_
     try clear hHeld
     try go_wp2
     go_ret
     exact ⟨zE, zB HB⟩
   ·rw [if_neg c2] at H
    have c2b0 : decide (x7_1 < (l0.length : Int)) = false := decide_eq_false c2
    clear c2
    obtain ⟨t115, A21, H⟩ := bindS H
    obtain rfl := Option.some.inj H
    go_wp2_with (first | ((with_reducible refine gate_callee (f := 33) rfl ?_); refine goesL_ (some 21) rfl rfl Try.func33 (by kernel_rfl) rfl #[.int .i64 (l0.length : Int), .int .i64 1, .int .i64 6] rfl zG ?_; (with_reducible refine (impl_InRange.calls (l0.length : Int) 1 6 t115 _ A21.out).mono ?_); rintro e w' ⟨rfl, ⟨nd, rfl⟩⟩; refine ⟨_, rfl, ?_⟩))
    go_ret
    exact ⟨zE, zB HB⟩

/-! ### impl_Mod: function 56 -/
def impl_Mod.f (a0 : Int) (a1 : Int) : Option (Int) := (impl_InRange.f a1 1 1000000000000).bind fun t116 => (if t116 = true then (if a1 = 0 then (none) else (some (Int.tmod (wrap64 ((Int.tmod a0 a1) + a1)) a1))) else (some 0))
set_option maxHeartbeats 8000000 in
set_option maxRecDepth 100000 in
theorem impl_Mod.calls (a0 : Int) (a1 : Int) (r : Int) (w : World) (h : impl_Mod.f a0 a1 = some r) :
  Calls Try.prog 56 #[.int .i64 a0, .int .i64 a1] w fun e w' => e = .returned (.int .i64 r) ∧ Drawn0 w w' := by
 have H : ((impl_InRange.f a1 1 1000000000000).bind fun t116 => (if t116 = true then (if a1 = 0 then (none) else (some (Int.tmod (wrap64 ((Int.tmod a0 a1) + a1)) a1))) else (some 0))) = some r := h
 clear h
 obtain ⟨t116, A3, H⟩ := bindS H
 by_cases c4 : t116 = true
 ·subst c4
  have H1 : (if a1 = 0 then (none) else (some (Int.tmod (wrap64 ((Int.tmod a0 a1) + a1)) a1))) = some r := by rw [if_pos rfl] at H; exact H
  clear H
  have H := H1
  clear H1
  obtain ⟨c5, H⟩ := ifN H
  have c5b0 : (a1 == 0) = false := beq_eq_false_iff_ne.mpr c5
  have c5b1 : (a1 != 0) = true := bne_iff_ne.mpr c5
  obtain rfl := Option.some.inj H
  go_enter Try.func56, Try.ntmps56
  go_wp2_with (first | ((with_reducible refine gate_callee (f := 33) rfl ?_); refine goesL_ (some 6) rfl rfl Try.func33 (by kernel_rfl) rfl #[.int .i64 a1, .int .i64 1, .int .i64 1000000000000] rfl zG ?_; (with_reducible refine (impl_InRange.calls a1 1 1000000000000 true _ A3.out).mono ?_); rintro e w' ⟨rfl, ⟨nd, rfl⟩⟩; refine ⟨_, rfl, ?_⟩))
  go_ret
  exact ⟨by first | rfl | (simp; done) | (simp [*]; done), by repeat (first | exact Drawn0.refl _ | apply Drawn0.step)⟩
 ·replace c4 := Bool.eq_false_iff.mpr c4
  subst c4
  have H1 : (some 0) = some r := by rw [if_neg (show ¬ (false = true) by decide)] at H; exact H
  clear H
  have H := H1
  clear H1
  obtain rfl := Option.some.inj H
  go_enter Try.func56, Try.ntmps56
  go_wp2_with (first | ((with_reducible refine gate_callee (f := 33) rfl ?_); refine goesL_ (some 6) rfl rfl Try.func33 (by kernel_rfl) rfl #[.int .i64 a1, .int .i64 1, .int .i64 1000000000000] rfl zG ?_; (with_reducible refine (impl_InRange.calls a1 1 1000000000000 false _ A3.out).mono ?_); rintro e w' ⟨rfl, ⟨nd, rfl⟩⟩; refine ⟨_, rfl, ?_⟩))
  go_ret
  exact ⟨by first | rfl | (simp; done) | (simp [*]; done), by repeat (first | exact Drawn0.refl _ | apply Drawn0.step)⟩

/-! ### impl_Hash: function 57 -/
def impl_Hash.l0 : Nat → Int → List Int → Int → Int → Option (Int)
 | 0, _, _, _, _ => none
 | k + 1, x3, x6, x7, x8 => if x8 < x7 then (if 0 ≤ x8 then (if x8 < (x6.length : Int) then ((impl_Mod.f (rd x6 x8) 2147483647).bind fun t118 => (impl_Hash.l0 k (Int.tmod (wrap64 ((wrap64 ((wrap64 (x3 * 1000003)) + t118)) + 13)) 2147483647) x6 x7 (wrap64 (x8 + 1)))) else (none)) else (none)) else (some x3)
def impl_Hash.f (k : Nat) (l0 : List Int) : Option (Int) := impl_Hash.l0 k 11 l0 (l0.length : Int) 0
theorem impl_Hash.mono_l : ∀ k, (∀ y0 y1 y2 y3, LeO (impl_Hash.l0 k y0 y1 y2 y3) (impl_Hash.l0 (k + 1) y0 y1 y2 y3))
 | 0 => fun _ _ _ _ r h => by simp [impl_Hash.l0] at h
 | k + 1 => by
  have ih0 := impl_Hash.mono_l k
  ·intro y0 y1 y2 y3
   unfold impl_Hash.l0
   repeat' first
   | (with_reducible exact ih0 _ _ _ _)
   | (with_reducible exact LeO.refl _)
   | (with_reducible exact LeO.none _)
   | (with_reducible refine LeO.ite ?_ ?_)
   | (with_reducible refine LeO.bind ?_ (fun _ => ?_))
   | exact ih0 _ _ _ _
   | exact LeO.none _
   | refine LeO.ite ?_ ?_
   | refine LeO.bind ?_ (fun _ => ?_)
theorem impl_Hash.mono : ∀ a0 k, LeO (impl_Hash.f k a0) (impl_Hash.f (k + 1) a0) := by
 intro a0 k
 have ih0 := impl_Hash.mono_l k
 unfold impl_Hash.f
 repeat' first
   | (with_reducible exact ih0 _ _ _ _)
   | (with_reducible exact LeO.refl _)
   | (with_reducible exact LeO.none _)
   | (with_reducible refine LeO.ite ?_ ?_)
   | (with_reducible refine LeO.bind ?_ (fun _ => ?_))
   | exact ih0 _ _ _ _
   | exact LeO.none _
   | refine LeO.ite ?_ ?_
   | refine LeO.bind ?_ (fun _ => ?_)
set_option maxHeartbeats 8000000 in
set_option maxRecDepth 100000 in
theorem impl_Hash.calls (k : Nat) (A0 : Option Addr) (c0 : Nat) (l0 : List Int) (r : Int) (w : World) (hr0 : Kd.C (Kd.int .i64) w A0 l0.length l0) (hc0 : l0.length ≤ c0) (h : impl_Hash.f k l0 = some r) :
  Calls Try.prog 57 #[.slice A0 l0.length c0] w fun e w' => e = .returned (.int .i64 r) ∧ Drawn0 w w' := by
 have HR0 := Aside0.mk hr0
 have HC0 := Aside0.mk hc0
 clear hr0 hc0
 have H : (impl_Hash.l0 k 11 l0 (l0.length : Int) 0) = some r := h
 clear h
 have H' := Aside0.mk H
 clear H
 go_enter Try.func57, Try.ntmps57
 go_wp2
 go_loopg [3, 8] k (fun kq v3 v8 w' => ∃ (x3_1 : Int) (x8_1 : Int), v3 = .int .i64 x3_1 ∧ v8 = .int .i64 x8_1 ∧ Aside0 (impl_Hash.l0 kq x3_1 l0 (l0.length : Int) x8_1 = some r) ∧ Aside0 (kq ≤ k) ∧ Drawn0 w w')
 case atStart => exact ⟨(11), (0), zF, zF, H', ⟨Nat.le_refl _⟩, by repeat (first | exact Drawn0.refl _ | apply Drawn0.step)⟩
 case round =>
  clear H'
  obtain ⟨x3_1, x8_1, rfl, rfl, HA, HK1, ⟨m1, rfl⟩⟩ := hrel
  cases gk with
  | zero => exact absurd HA.out (by simp [impl_Hash.l0])
  | succ k1 =>
   have H := HA.out
   clear HA
   simp only [impl_Hash.l0] at H
   by_cases c2 : x8_1 < (l0.length : Int)
   ·rw [if_pos c2] at H
    have c2b0 : decide (x8_1 < (l0.length : Int)) = true := decide_eq_true c2
    clear c2
    obtain ⟨c3, H⟩ := ifS H
    have c3b0 : decide (0 ≤ x8_1) = true := decide_eq_true c3
    clear c3
    obtain ⟨c4, H⟩ := ifS H
    have c4b0 : decide (x8_1 < (l0.length : Int)) = true := decide_eq_true c4
    clear c4
    obtain ⟨t118, A5, H⟩ := bindS H
    have H' := Aside0.mk H
    clear H
    have p117 : 0 ≤ (x8_1 : Int) := zD
    have q117 : x8_1 < (l0.length : Int) := zD
    obtain ⟨ad117, e117, hx117_0⟩ := Kd.at_int HR0.out x8_1 p117 q117
    cases e117
    replace p117 := eq_true p117
    replace q117 := eq_true q117
    go_wp2_with (first | ((with_reducible refine gate_callee (f := 56) rfl ?_); refine goesL_ (some 15) rfl rfl Try.func56 (by kernel_rfl) rfl #[.int .i64 (rd l0 x8_1), .int .i64 2147483647] rfl zG ?_; (with_reducible refine (impl_Mod.calls (rd l0 x8_1) 2147483647 t118 _ A5.out).mono ?_); rintro e w' ⟨rfl, ⟨nd, rfl⟩⟩; refine ⟨_, rfl, ?_⟩))
    go_roundg k1
    case measure => have := HK1.out; omega
    case rel => exact ⟨(Int.tmod (wrap64 ((wrap64 ((wrap64 (x3_1 * 1000003)) + t118)) + 13)) 2147483647), (wrap64 (x8_1 + 1)), zF, zF, H', ⟨by have := HK1.out; omega⟩, by repeat (first | exact Drawn0.refl _ | apply Drawn0.step)⟩
   ·rw [if_neg c2] at H
    have c2b0 : decide (x8_1 < (l0.length : Int)) = false := decide_eq_false c2
    clear c2
    obtain rfl := Option.some.inj H
    go_wp2
    go_ret
    exact ⟨by first | rfl | (simp; done) | (simp [*]; done), by repeat (first | exact Drawn0.refl _ | apply Drawn0.step)⟩

/-! ### impl_PickOf: function 41 -/
def impl_PickOf.f (k : Nat) (a0 : Int) (a1 : Int) (a2 : Int) : Option (Int) := if a2 < 1 then (some 0) else ((impl_Hash.f k (([a0, a1] : List Int))).bind fun t122 => ((impl_Mod.f t122 a2).bind fun t123 => (some t123)))
theorem impl_PickOf.mono : ∀ a0 a1 a2 k, LeO (impl_PickOf.f k a0 a1 a2) (impl_PickOf.f (k + 1) a0 a1 a2) := by
 intro a0 a1 a2 k
 unfold impl_PickOf.f
 repeat' first
   | (with_reducible exact impl_Hash.mono _ _)
   | (with_reducible exact LeO.refl _)
   | (with_reducible exact LeO.none _)
   | (with_reducible refine LeO.ite ?_ ?_)
   | (with_reducible refine LeO.bind ?_ (fun _ => ?_))
   | exact impl_Hash.mono _ _
   | exact LeO.none _
   | refine LeO.ite ?_ ?_
   | refine LeO.bind ?_ (fun _ => ?_)
set_option maxHeartbeats 8000000 in
set_option maxRecDepth 100000 in
theorem impl_PickOf.calls (k : Nat) (a0 : Int) (a1 : Int) (a2 : Int) (r : Int) (w : World) (h : impl_PickOf.f k a0 a1 a2 = some r) :
  Calls Try.prog 41 #[.int .i64 a0, .int .i64 a1, .int .i64 a2] w fun e w' => e = .returned (.int .i64 r) ∧ Below w.heap.size w w' := by
 have HB := Aside0.mk (Below.refl w.heap.size w)
 have H : (if a2 < 1 then (some 0) else ((impl_Hash.f k (([a0, a1] : List Int))).bind fun t122 => ((impl_Mod.f t122 a2).bind fun t123 => (some t123)))) = some r := h
 clear h
 by_cases c4 : a2 < 1
 ·rw [if_pos c4] at H
  have c4b0 : decide (a2 < 1) = true := decide_eq_true c4
  clear c4
  obtain rfl := Option.some.inj H
  go_enter Try.func41, Try.ntmps41
  go_wp2
  go_ret
  exact ⟨zE, zB HB⟩
 ·rw [if_neg c4] at H
  have c4b0 : decide (a2 < 1) = false := decide_eq_false c4
  clear c4
  obtain ⟨y119, hy119⟩ : ∃ y_ : List Int, y_ = (([a0, a1] : List Int)) := ⟨_, rfl⟩
  replace H : ((impl_Hash.f k y119).bind fun t122 => ((impl_Mod.f t122 a2).bind fun t123 => (some t123))) = some r := by first | (rw [hy119]; with_reducible exact H) | (have H2_ := (Option.bind_some _ _).symm.trans H; rw [hy119]; with_reducible exact H2_) | (have H2_ := (Option.bind_some _ _).symm.trans H; with_reducible exact H2_) | with_reducible exact H | (rw [hy119]; exact H) | exact H
  have Ny119 := Aside0.mk hy119
  clear hy119
  obtain ⟨t122, A5, H⟩ := bindS H
  obtain ⟨t123, A6, H⟩ := bindS H
  obtain rfl := Option.some.inj H
  go_enter Try.func41, Try.ntmps41
  go_wp2_with (first | ((with_reducible refine gate_dst (N := 11) rfl ?_); refine Kd.R_lit (Kd.int .i64) _ 3 ?hg (N := 11) ?hd (xs := ([a0, a1] : List Int)) (inner := [.int .i64 a0, .int .i64 a1]) (ok := fun _ => True) (okp := fun _ => True) ?hr ?hp (fun _ hk => hk) trivial (Below.refl _ _) (Nat.le_refl _) (by simp) ?_; (case hd => rfl); (case hg => rfl); (case hr => first | (go_simp; done) | (go_simp; rfl)); (case hp => exact (Reps.one (show Kd.M (Kd.int .i64) _ _ _ a0 [.int .i64 a0] from rfl) (Reps.one (show Kd.M (Kd.int .i64) _ _ _ a1 [.int .i64 a1] from rfl) (Reps.none _ _)))); intro v120 w7 ho8 hb hg_ hnew_; clear hg_ hnew_; (first | rw [← Ny119.out] at ho8 | (simp only [Int.reduceToNat] at ho8; rw [← Ny119.out] at ho8)); have HO121 := Aside0.mk (Kd.R_lower ho8 (below_size (zB HB))); replace HB := bS HB hb; clear hb ho8; obtain ⟨Ao9, co9, eo9⟩ := Kd.R_slice HO121.out; subst eo9) | ((with_reducible refine gate_callee (f := 57) rfl ?_); refine goesL_ (some 12) rfl rfl Try.func57 (by kernel_rfl) rfl #[.slice Ao9 y119.length co9] rfl zG ?_; (with_reducible refine (impl_Hash.calls k _ _ y119 t122 _ ?side1 ?side2 A5.out).mono ?_); (case side1 => repeat (first | exact (Kd.R_reads' HO121.out).2.2 | (with_reducible refine Kd.C_alloc ?_ _) | (with_reducible refine Kd.C_drewN ?_ _) | (with_reducible refine Kd.C_drew ?_))); (case side2 => exact (Kd.R_reads' HO121.out).2.1); rintro e w' ⟨rfl, ⟨nd, rfl⟩⟩; refine ⟨_, rfl, ?_⟩) | ((with_reducible refine gate_callee (f := 56) rfl ?_); refine goesL_ (some 14) rfl rfl Try.func56 (by kernel_rfl) rfl #[.int .i64 t122, .int .i64 a2] rfl zG ?_; (with_reducible refine (impl_Mod.calls t122 a2 t123 _ A6.out).mono ?_); rintro e w' ⟨rfl, ⟨nd, rfl⟩⟩; refine ⟨_, rfl, ?_⟩))
  go_ret
  exact ⟨zE, zB HB⟩

end Go.Proofs.Yticpmgofegaaeaa.PFnDiffers
