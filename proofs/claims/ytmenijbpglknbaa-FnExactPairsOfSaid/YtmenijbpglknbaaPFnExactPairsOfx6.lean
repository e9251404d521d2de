-- WRITTEN by pp.py, this session's own wrapper around the print; not trusted: Lean checks it
import Derived.Test.YtmenijbpglknbaaPFnExactPairsOfx0
import Derived.Test.YtmenijbpglknbaaPFnExactPairsOfx5
namespace Go.Proofs.Ytmenijbpglknbaa.PFnExactPairsOf
open Go.RowKit Go.Proofs.Ytmenijbpglknbaa.Hw Go.Proofs.YtmenijbpglknbaaW.PrintWords Go.Proofs.YtmenijbpglknbaaW.PrintLast Go.Proofs.YtmenijbpglknbaaW.PrintMore
attribute [local go_sem] max2_int min2_int max_two min_two max_three min_three max_four min_four   -- for this text's walks alone
set_option linter.unusedVariables false
set_option linter.unusedSimpArgs false
set_option linter.unusedSectionVars false

/-! ### impl_IsMachine: function 41 -/
mutual
def impl_IsMachine.j0 : Nat → Bool → Int → List Bool → List (S64) → Option (Bool)
 | 0, _, _, _, _ => none
 | k + 1, x24, x262000, x262001, x262002 => if x24 = true then (some false) else (impl_IsMachine.l0 k x262002 (x262002.length : Int) 0 x262000 x262001 x262002)
def impl_IsMachine.l0 : Nat → List (S64) → Int → Int → Int → List Bool → List (S64) → Option (Bool)
 | 0, _, _, _, _, _, _ => none
 | k + 1, x26, x27, x28, x262000, x262001, x262002 => if x28 < x27 then (if 0 ≤ x28 then (if x28 < (x26.length : Int) then ((impl_InRange.f ((rd_T64 x26 x28).f0) 0 (wrap64 (x262000 - 1))).bind fun t265 => (if t265 = true then ((impl_InRange.f ((rd_T64 x26 x28).f3) 0 (wrap64 (x262000 - 1))).bind fun t266 => (if t266 = true then ((impl_InRange.f ((rd_T64 x26 x28).f2) 0 5).bind fun t267 => (impl_IsMachine.j2 k x28 x26 x27 x28 (!t267) x262000 x262001 x262002 ((rd_T64 x26 x28).f0) ((rd_T64 x26 x28).f1) ((rd_T64 x26 x28).f2) ((rd_T64 x26 x28).f3))) else (impl_IsMachine.j2 k x28 x26 x27 x28 true x262000 x262001 x262002 ((rd_T64 x26 x28).f0) ((rd_T64 x26 x28).f1) ((rd_T64 x26 x28).f2) ((rd_T64 x26 x28).f3)))) else (impl_IsMachine.j2 k x28 x26 x27 x28 true x262000 x262001 x262002 ((rd_T64 x26 x28).f0) ((rd_T64 x26 x28).f1) ((rd_T64 x26 x28).f2) ((rd_T64 x26 x28).f3)))) else (none)) else (none)) else (some true)
def impl_IsMachine.j2 : Nat → Int → List (S64) → Int → Int → Bool → Int → List Bool → List (S64) → Int → Bool → Int → Int → Option (Bool)
 | 0, _, _, _, _, _, _, _, _, _, _, _, _ => none
 | k + 1, x3, x26, x27, x28, x54, x262000, x262001, x262002, x265000, x265001, x265002, x265003 => if x54 = true then (some false) else (if 0 ≤ x3 then (if x3 ≤ (x262002.length : Int) then ((some (x262002.take (x3 : Int).toNat : List (S64))).bind fun y268 => (impl_IsMachine.l1 k x26 x27 x28 y268 (y268.length : Int) 0 x262000 x262001 x262002 x265000 x265001 x265002 x265003)) else (none)) else (none))
def impl_IsMachine.l1 : Nat → List (S64) → Int → Int → List (S64) → Int → Int → Int → List Bool → List (S64) → Int → Bool → Int → Int → Option (Bool)
 | 0, _, _, _, _, _, _, _, _, _, _, _, _, _ => none
 | k + 1, x26, x27, x28, x58, x59, x60, x262000, x262001, x262002, x265000, x265001, x265002, x265003 => if x60 < x59 then (if 0 ≤ x60 then (if x60 < (x58.length : Int) then (if ((rd_T64 x58 x60).f0) = x265000 then (if (((rd_T64 x58 x60).f1) != x265001) = true then (some false) else (if ((rd_T64 x58 x60).f2) = x265002 then (some false) else (impl_IsMachine.l1 k x26 x27 x28 x58 x59 (wrap64 (x60 + 1)) x262000 x262001 x262002 x265000 x265001 x265002 x265003))) else (impl_IsMachine.l1 k x26 x27 x28 x58 x59 (wrap64 (x60 + 1)) x262000 x262001 x262002 x265000 x265001 x265002 x265003)) else (none)) else (none)) else (impl_IsMachine.l0 k x26 x27 (wrap64 (x28 + 1)) x262000 x262001 x262002)
end
def impl_IsMachine.f (k : Nat) (a0_0 : Int) (l0_1 : List Bool) (l0_2 : List (S64)) : Option (Bool) := (impl_InRange.f a0_0 1 6).bind fun t262 => (if t262 = true then (if (l0_1.length : Int) = a0_0 then (impl_IsMachine.j0 k (decide ((l0_2.length : Int) > 12)) a0_0 l0_1 l0_2) else (impl_IsMachine.j0 k true a0_0 l0_1 l0_2)) else (impl_IsMachine.j0 k true a0_0 l0_1 l0_2))
theorem impl_IsMachine.mono_l : ∀ k, (∀ y0 y1 y2 y3, LeO (impl_IsMachine.j0 k y0 y1 y2 y3) (impl_IsMachine.j0 (k + 1) y0 y1 y2 y3)) ∧ (∀ y0 y1 y2 y3 y4 y5, LeO (impl_IsMachine.l0 k y0 y1 y2 y3 y4 y5) (impl_IsMachine.l0 (k + 1) y0 y1 y2 y3 y4 y5)) ∧ (∀ y0 y1 y2 y3 y4 y5 y6 y7 y8 y9 y10 y11, LeO (impl_IsMachine.j2 k y0 y1 y2 y3 y4 y5 y6 y7 y8 y9 y10 y11) (impl_IsMachine.j2 (k + 1) y0 y1 y2 y3 y4 y5 y6 y7 y8 y9 y10 y11)) ∧ (∀ y0 y1 y2 y3 y4 y5 y6 y7 y8 y9 y10 y11 y12, LeO (impl_IsMachine.l1 k y0 y1 y2 y3 y4 y5 y6 y7 y8 y9 y10 y11 y12) (impl_IsMachine.l1 (k + 1) y0 y1 y2 y3 y4 y5 y6 y7 y8 y9 y10 y11 y12))
 | 0 => ⟨fun _ _ _ _ r h => by simp [impl_IsMachine.j0] at h, fun _ _ _ _ _ _ r h => by simp [impl_IsMachine.l0] at h, fun _ _ _ _ _ _ _ _ _ _ _ _ r h => by simp [impl_IsMachine.j2] at h, fun _ _ _ _ _ _ _ _ _ _ _ _ _ r h => by simp [impl_IsMachine.l1] at h⟩
 | k + 1 => by
  obtain ⟨ih0, ih1, ih2, ih3⟩ := impl_IsMachine.mono_l k
  refine ⟨?_, ?_, ?_, ?_⟩
  ·intro y0 y1 y2 y3
   unfold impl_IsMachine.j0
   repeat' first
   | (with_reducible exact ih0 _ _ _ _)
   | (with_reducible exact ih1 _ _ _ _ _ _)
   | (with_reducible exact ih2 _ _ _ _ _ _ _ _ _ _ _ _)
   | (with_reducible exact ih3 _ _ _ _ _ _ _ _ _ _ _ _ _)
   | (with_reducible exact LeO.refl _)
   | (with_reducible exact LeO.none _)
   | (with_reducible refine LeO.ite ?_ ?_)
   | (with_reducible refine LeO.bind ?_ (fun _ => ?_))
   | exact ih0 _ _ _ _
   | exact ih1 _ _ _ _ _ _
   | exact ih2 _ _ _ _ _ _ _ _ _ _ _ _
   | exact ih3 _ _ _ _ _ _ _ _ _ _ _ _ _
   | exact LeO.none _
   | refine LeO.ite ?_ ?_
   | refine LeO.bind ?_ (fun _ => ?_)
  ·intro y0 y1 y2 y3 y4 y5
   unfold impl_IsMachine.l0
   repeat' first
   | (with_reducible exact ih0 _ _ _ _)
   | (with_reducible exact ih1 _ _ _ _ _ _)
   | (with_reducible exact ih2 _ _ _ _ _ _ _ _ _ _ _ _)
   | (with_reducible exact ih3 _ _ _ _ _ _ _ _ _ _ _ _ _)
   | (with_reducible exact LeO.refl _)
   | (with_reducible exact LeO.none _)
   | (with_reducible refine LeO.ite ?_ ?_)
   | (with_reducible refine LeO.bind ?_ (fun _ => ?_))
   | exact ih0 _ _ _ _
   | exact ih1 _ _ _ _ _ _
   | exact ih2 _ _ _ _ _ _ _ _ _ _ _ _
   | exact ih3 _ _ _ _ _ _ _ _ _ _ _ _ _
   | exact LeO.none _
   | refine LeO.ite ?_ ?_
   | refine LeO.bind ?_ (fun _ => ?_)
  ·intro y0 y1 y2 y3 y4 y5 y6 y7 y8 y9 y10 y11
   unfold impl_IsMachine.j2
   repeat' first
   | (with_reducible exact ih0 _ _ _ _)
   | (with_reducible exact ih1 _ _ _ _ _ _)
   | (with_reducible exact ih2 _ _ _ _ _ _ _ _ _ _ _ _)
   | (with_reducible exact ih3 _ _ _ _ _ _ _ _ _ _ _ _ _)
   | (with_reducible exact LeO.refl _)
   | (with_reducible exact LeO.none _)
   | (with_reducible refine LeO.ite ?_ ?_)
   | (with_reducible refine LeO.bind ?_ (fun _ => ?_))
   | exact ih0 _ _ _ _
   | exact ih1 _ _ _ _ _ _
   | exact ih2 _ _ _ _ _ _ _ _ _ _ _ _
   | exact ih3 _ _ _ _ _ _ _ _ _ _ _ _ _
   | exact LeO.none _
   | refine LeO.ite ?_ ?_
   | refine LeO.bind ?_ (fun _ => ?_)
  ·intro y0 y1 y2 y3 y4 y5 y6 y7 y8 y9 y10 y11 y12
   unfold impl_IsMachine.l1
   repeat' first
   | (with_reducible exact ih0 _ _ _ _)
   | (with_reducible exact ih1 _ _ _ _ _ _)
   | (with_reducible exact ih2 _ _ _ _ _ _ _ _ _ _ _ _)
   | (with_reducible exact ih3 _ _ _ _ _ _ _ _ _ _ _ _ _)
   | (with_reducible exact LeO.refl _)
   | (with_reducible exact LeO.none _)
   | (with_reducible refine LeO.ite ?_ ?_)
   | (with_reducible refine LeO.bind ?_ (fun _ => ?_))
   | exact ih0 _ _ _ _
   | exact ih1 _ _ _ _ _ _
   | exact ih2 _ _ _ _ _ _ _ _ _ _ _ _
   | exact ih3 _ _ _ _ _ _ _ _ _ _ _ _ _
   | exact LeO.none _
   | refine LeO.ite ?_ ?_
   | refine LeO.bind ?_ (fun _ => ?_)
theorem impl_IsMachine.mono : ∀ a0 a1 a2 k, LeO (impl_IsMachine.f k a0 a1 a2) (impl_IsMachine.f (k + 1) a0 a1 a2) := by
 intro a0 a1 a2 k
 obtain ⟨ih0, ih1, ih2, ih3⟩ := impl_IsMachine.mono_l k
 unfold impl_IsMachine.f
 repeat' first
   | (with_reducible exact ih0 _ _ _ _)
   | (with_reducible exact ih1 _ _ _ _ _ _)
   | (with_reducible exact ih2 _ _ _ _ _ _ _ _ _ _ _ _)
   | (with_reducible exact ih3 _ _ _ _ _ _ _ _ _ _ _ _ _)
   | (with_reducible exact LeO.refl _)
   | (with_reducible exact LeO.none _)
   | (with_reducible refine LeO.ite ?_ ?_)
   | (with_reducible refine LeO.bind ?_ (fun _ => ?_))
   | exact ih0 _ _ _ _
   | exact ih1 _ _ _ _ _ _
   | exact ih2 _ _ _ _ _ _ _ _ _ _ _ _
   | exact ih3 _ _ _ _ _ _ _ _ _ _ _ _ _
   | exact LeO.none _
   | refine LeO.ite ?_ ?_
   | refine LeO.bind ?_ (fun _ => ?_)
set_option maxHeartbeats 8000000 in
set_option maxRecDepth 100000 in
theorem impl_IsMachine.calls (k : Nat) (a0_0 : Int) (A0_1 : Option Addr) (c0_1 : Nat) (l0_1 : List Bool) (A0_2 : Option Addr) (c0_2 : Nat) (l0_2 : List (S64)) (r : Bool) (w : World) (hr0_1 : Kd.C Kd.bool w A0_1 l0_1.length l0_1) (hc0_1 : l0_1.length ≤ c0_1) (hr0_2 : Kd.C k64 w A0_2 l0_2.length l0_2) (hc0_2 : l0_2.length ≤ c0_2) (h : impl_IsMachine.f k a0_0 l0_1 l0_2 = some r) :
  Calls Try.prog 41 #[.agg #[.int .i64 a0_0, .slice A0_1 l0_1.length c0_1, .slice A0_2 l0_2.length c0_2]] w fun e w' => e = .returned (.bool r) ∧ Below w.heap.size w w' := by
 have hu31 := Try.underlying31
 have hu64 := Try.underlying64
 have HR0_1 := Aside0.mk hr0_1
 have HC0_1 := Aside0.mk hc0_1
 clear hr0_1 hc0_1
 have HR0_2 := Aside0.mk hr0_2
 have HC0_2 := Aside0.mk hc0_2
 clear hr0_2 hc0_2
 have HB := Aside0.mk (Below.refl w.heap.size w)
 have H : ((impl_InRange.f a0_0 1 6).bind fun t262 => (if t262 = true then (if (l0_1.length : Int) = a0_0 then (impl_IsMachine.j0 k (decide ((l0_2.length : Int) > 12)) a0_0 l0_1 l0_2) else (impl_IsMachine.j0 k true a0_0 l0_1 l0_2)) else (impl_IsMachine.j0 k true a0_0 l0_1 l0_2))) = some r := h
 clear h
 have HC2 := Aside0.mk H
 clear H
 go_enter Try.func41, Try.ntmps41
 go_upto_region 1 with (first | ((with_reducible refine gate_dst (N := 1) rfl ?_); (try (refine gate_guard (by rfl) ?_; dsimp only)); refine box_event ?hg (N := 1) ?hd (cs := #[.int .i64 a0_0, .slice A0_1 l0_1.length c0_1, .slice A0_2 l0_2.length c0_2]) (t := 31) ?hr ?_; (case hd => rfl); (case hg => rfl); (case hr => first | (go_simp; done) | (go_simp; rfl)); intro gb261 hg w3 hbox hb; have BK261 := Aside0.mk (hbox); have GW261 := gS HB hg; have GE261 := gS HB hg; replace HB := bS HB hb; clear hb hbox hg))
 (try simp only [Act.put, List.setIfInBounds_toArray, List.set_cons_zero, List.set_cons_succ])
 go_cut [24] (fun v24 wc => ∃ (kq : Nat) (x24_1 : Bool), v24 = .bool x24_1 ∧ Aside0 (impl_IsMachine.j0 kq x24_1 a0_0 l0_1 l0_2 = some r) ∧ Aside0 (kq ≤ k) ∧ Aside0 (wc.heap[gb261]? = some (.cells #[.int .i64 a0_0, (.slice A0_1 l0_1.length c0_1), (.slice A0_2 l0_2.length c0_2)] 31 (0, 0))) ∧ Aside0 (Below w.heap.size w wc))
 case first =>
  have H := HC2.out
  clear HC2
  obtain ⟨t262, A4, H⟩ := bindS H
  by_cases c5 : t262 = true
  ·subst c5
   have H1 : (if (l0_1.length : Int) = a0_0 then (impl_IsMachine.j0 k (decide ((l0_2.length : Int) > 12)) a0_0 l0_1 l0_2) else (impl_IsMachine.j0 k true a0_0 l0_1 l0_2)) = some r := by rw [if_pos rfl] at H; exact H
   clear H
   have H := H1
   clear H1
   by_cases c6 : (l0_1.length : Int) = a0_0
   ·rw [if_pos c6] at H
    have c6b0 : ((l0_1.length : Int) == a0_0) = true := beq_iff_eq.mpr c6
    have c6b1 : ((l0_1.length : Int) != a0_0) = false := bne_eq_false_iff_eq.mpr c6
    clear c6
    (first | rw [c6b0] | (simp only [i64_w, i32_w]; rw [c6b0]) | skip)
    have H' := Aside0.mk H
    clear H
    have hcz7_0 := bc0 BK261
    have hcz7_1 := bc1 BK261
    have hcz7_2 := bc2 BK261
    have hfz7_0 := bf BK261 0
    have hfz7_1 := bf BK261 1
    have hfz7_2 := bf BK261 2
    go_wp2_with (first | ((with_reducible refine gate_callee (f := 60) rfl ?_); refine goesL_ (some 9) rfl rfl Try.func60 (by kernel_rfl) rfl #[.int .i64 a0_0, .int .i64 1, .int .i64 6] rfl zG ?_; (with_reducible refine (impl_InRange.calls a0_0 1 6 true _ A4.out).mono ?_); rintro e w' ⟨rfl, ⟨nd, rfl⟩⟩; refine ⟨_, rfl, ?_⟩))
    go_meet
    case rel => exact ⟨_, (decide ((l0_2.length : Int) > 12)), zF, H', ⟨by first | omega | exact Nat.le_refl _⟩, ⟨zK BK261⟩, ⟨zB HB⟩⟩
   ·rw [if_neg c6] at H
    have c6b0 : ((l0_1.length : Int) == a0_0) = false := beq_eq_false_iff_ne.mpr c6
    have c6b1 : ((l0_1.length : Int) != a0_0) = true := bne_iff_ne.mpr c6
    (first | rw [c6b0] | (simp only [i64_w, i32_w]; rw [c6b0]) | skip)
    have H' := Aside0.mk H
    clear H
    have hcz8_0 := bc0 BK261
    have hcz8_1 := bc1 BK261
    have hcz8_2 := bc2 BK261
    have hfz8_0 := bf BK261 0
    have hfz8_1 := bf BK261 1
    have hfz8_2 := bf BK261 2
    go_wp2_with (first | ((with_reducible refine gate_callee (f := 60) rfl ?_); refine goesL_ (some 9) rfl rfl Try.func60 (by kernel_rfl) rfl #[.int .i64 a0_0, .int .i64 1, .int .i64 6] rfl zG ?_; (with_reducible refine (impl_InRange.calls a0_0 1 6 true _ A4.out).mono ?_); rintro e w' ⟨rfl, ⟨nd, rfl⟩⟩; refine ⟨_, rfl, ?_⟩))
    go_meet
    case rel => exact ⟨_, (true), zF, H', ⟨by first | omega | exact Nat.le_refl _⟩, ⟨zK BK261⟩, ⟨zB HB⟩⟩
  ·replace c5 := Bool.eq_false_iff.mpr c5
   subst c5
   have H1 : (impl_IsMachine.j0 k true a0_0 l0_1 l0_2) = some r := by rw [if_neg (show ¬ (false = true) by decide)] at H; exact H
   clear H
   have H := H1
   clear H1
   have H' := Aside0.mk H
   clear H
   have hcz9_0 := bc0 BK261
   have hcz9_1 := bc1 BK261
   have hcz9_2 := bc2 BK261
   have hfz9_0 := bf BK261 0
   have hfz9_1 := bf BK261 1
   have hfz9_2 := bf BK261 2
   go_wp2_with (first | ((with_reducible refine gate_callee (f := 60) rfl ?_); refine goesL_ (some 9) rfl rfl Try.func60 (by kernel_rfl) rfl #[.int .i64 a0_0, .int .i64 1, .int .i64 6] rfl zG ?_; (with_reducible refine (impl_InRange.calls a0_0 1 6 false _ A4.out).mono ?_); rintro e w' ⟨rfl, ⟨nd, rfl⟩⟩; refine ⟨_, rfl, ?_⟩))
   go_meet
   case rel => exact ⟨_, (true), zF, H', ⟨by first | omega | exact Nat.le_refl _⟩, ⟨zK BK261⟩, ⟨zB HB⟩⟩
 case rest =>
  clear HC2
  try clear p2
  try clear c4
  try clear c5
  try clear c6
  try clear c6b0
  try clear c6b1
  try clear hcz7_0
  try clear hcz7_1
  try clear hcz7_2
  try clear hcz8_0
  try clear hcz8_1
  try clear hcz8_2
  try clear hcz9_0
  try clear hcz9_1
  try clear hcz9_2
  try clear hfz7_0
  try clear hfz7_1
  try clear hfz7_2
  try clear hfz8_0
  try clear hfz8_1
  try clear hfz8_2
  try clear hfz9_0
  try clear hfz9_1
  try clear hfz9_2
  obtain ⟨kq, x24_1, rfl, HA, HJ1, BK261, HB⟩ := hcut
  cases kq with
  | zero => exact absurd HA.out (by simp [impl_IsMachine.j0])
  | succ kj1 =>
   have H := HA.out
   clear HA
   simp only [impl_IsMachine.j0] at H
   by_cases c10 : x24_1 = true
   ·subst c10
    have H1 : (some false) = some r := by rw [if_pos rfl] at H; exact H
    clear H
    have H := H1
    clear H1
    obtain rfl := Option.some.inj H
    go_wp2
    go_ret
    exact ⟨zE, zB HB⟩
   ·replace c10 := Bool.eq_false_iff.mpr c10
    subst c10
    have H1 : (impl_IsMachine.l0 kj1 l0_2 (l0_2.length : Int) 0 a0_0 l0_1 l0_2) = some r := by rw [if_neg (show ¬ (false = true) by decide)] at H; exact H
    clear H
    have H := H1
    clear H1
    have H' := Aside0.mk H
    clear H
    have hcz11_0 := bc0 BK261
    have hcz11_1 := bc1 BK261
    have hcz11_2 := bc2 BK261
    have hfz11_0 := bf BK261 0
    have hfz11_1 := bf BK261 1
    have hfz11_2 := bf BK261 2
    go_wp2
    go_loopg [28] kj1 (fun kq v28 w' => ∃ (x28_2 : Int), v28 = .int .i64 x28_2 ∧ Aside0 (impl_IsMachine.l0 kq l0_2 (l0_2.length : Int) x28_2 a0_0 l0_1 l0_2 = some r) ∧ Aside0 (kq ≤ kj1) ∧ Aside0 (w'.heap[gb261]? = some (.cells #[.int .i64 a0_0, (.slice A0_1 l0_1.length c0_1), (.slice A0_2 l0_2.length c0_2)] 31 (0, 0))) ∧ Aside0 (Below w.heap.size w w'))
    case atStart => exact ⟨(0), zF, H', ⟨Nat.le_refl _⟩, ⟨zK BK261⟩, ⟨zB HB⟩⟩
    case round =>
     clear H'
     try clear c1
     try clear p2
     try clear c4
     try clear c5
     try clear c6
     try clear c6b0
     try clear c6b1
     try clear c10
     try clear hcz11_0
     try clear hcz11_1
     try clear hcz11_2
     try clear hcz7_0
     try clear hcz7_1
     try clear hcz7_2
     try clear hcz8_0
     try clear hcz8_1
     try clear hcz8_2
     try clear hcz9_0
     try clear hcz9_1
     try clear hcz9_2
     try clear hfz11_0
     try clear hfz11_1
     try clear hfz11_2
     try clear hfz7_0
     try clear hfz7_1
     try clear hfz7_2
     try clear hfz8_0
     try clear hfz8_1
     try clear hfz8_2
     try clear hfz9_0
     try clear hfz9_1
     try clear hfz9_2
     try clear p2
     obtain ⟨x28_2, rfl, HA, HK2, BK261, HB⟩ := hrel
     cases gk with
     | zero => exact absurd HA.out (by simp [impl_IsMachine.l0])
     | succ k2 =>
      have H := HA.out
      clear HA
      simp only [impl_IsMachine.l0] at H
      by_cases c12 : x28_2 < (l0_2.length : Int)
      ·rw [if_pos c12] at H
       have c12b0 : decide (x28_2 < (l0_2.length : Int)) = true := decide_eq_true c12
       clear c12
       obtain ⟨c13, H⟩ := ifS H
       have c13b0 : decide (0 ≤ x28_2) = true := decide_eq_true c13
       clear c13
       obtain ⟨c14, H⟩ := ifS H
       have c14b0 : decide (x28_2 < (l0_2.length : Int)) = true := decide_eq_true c14
       clear c14
       have HC15 := Aside0.mk H
       clear H
       have p263 : 0 ≤ (x28_2 : Int) := zD
       have q263 : x28_2 < (l0_2.length : Int) := zD
       obtain ⟨ad263, e263, hx263_0, hx263_1, hx263_2, hx263_3⟩ := at_T64 HR0_2.out x28_2 p263 q263
       cases e263
       replace hx263_0 := hL HB hx263_0
       replace hx263_1 := hL HB hx263_1
       replace hx263_2 := hL HB hx263_2
       replace hx263_3 := hL HB hx263_3
       replace p263 := eq_true p263
       replace q263 := eq_true q263
       go_upto_region 6 with (first | ((with_reducible refine gate_dst (N := 4) rfl ?_); (try (refine gate_guard (by rfl) ?_; dsimp only)); refine box_event ?hg (N := 4) ?hd (cs := #[.int .i64 0, .bool false, .int .i64 0, .int .i64 0]) (t := 64) ?hr ?_; (case hd => rfl); (case hg => rfl); (case hr => first | (go_simp; done) | (go_simp; rfl)); intro gb264 hg w16 hbox hb; have BK264 := Aside0.mk (hbox); have GW264 := gS HB hg; have GE264 := gS HB hg; replace HB := bS HB hb; have NB261_264 := nL BK261 hg; have NB264_261 := nR BK261 hg; replace BK261 := kB BK261 hb; clear hb hbox hg; have hnb17 := NB264_261.out; have hnc17 := NB261_264.out; have hcz18_0 := bc0 BK264; have hcz18_1 := bc1 BK264; have hcz18_2 := bc2 BK264; have hcz18_3 := bc3 BK264; have hfz18_0 := bf BK264 0; have hfz18_1 := bf BK264 1; have hfz18_2 := bf BK264 2; have hfz18_3 := bf BK264 3))
       (try simp only [Act.put, List.setIfInBounds_toArray, List.set_cons_zero, List.set_cons_succ])
       go_cut [54] (fun v54 wc => ∃ (kq : Nat) (x54_14 : Bool), v54 = .bool x54_14 ∧ Aside0 (impl_IsMachine.j2 kq x28_2 l0_2 (l0_2.length : Int) x28_2 x54_14 a0_0 l0_1 l0_2 ((rd_T64 l0_2 x28_2).f0) ((rd_T64 l0_2 x28_2).f1) ((rd_T64 l0_2 x28_2).f2) ((rd_T64 l0_2 x28_2).f3) = some r) ∧ Aside0 (kq ≤ k2) ∧ Aside0 (wc.heap[gb261]? = some (.cells #[.int .i64 a0_0, (.slice A0_1 l0_1.length c0_1), (.slice (some ad263) l0_2.length c0_2)] 31 (0, 0))) ∧ Aside0 (wc.heap[gb264]? = some (.cells #[.int .i64 ((rd_T64 l0_2 x28_2).f0), .bool ((rd_T64 l0_2 x28_2).f1), .int .i64 ((rd_T64 l0_2 x28_2).f2), .int .i64 ((rd_T64 l0_2 x28_2).f3)] 64 (0, 0))) ∧ Aside0 (Below w.heap.size w wc))
       case first =>
        have H := HC15.out
        clear HC15
        obtain ⟨t265, A19, H⟩ := bindS H
        by_cases c20 : t265 = true
        ·subst c20
         have H1 : ((impl_InRange.f ((rd_T64 l0_2 x28_2).f3) 0 (wrap64 (a0_0 - 1))).bind fun t266 => (if t266 = true then ((impl_InRange.f ((rd_T64 l0_2 x28_2).f2) 0 5).bind fun t267 => (impl_IsMachine.j2 k2 x28_2 l0_2 (l0_2.length : Int) x28_2 (!t267) a0_0 l0_1 l0_2 ((rd_T64 l0_2 x28_2).f0) ((rd_T64 l0_2 x28_2).f1) ((rd_T64 l0_2 x28_2).f2) ((rd_T64 l0_2 x28_2).f3))) else (impl_IsMachine.j2 k2 x28_2 l0_2 (l0_2.length : Int) x28_2 true a0_0 l0_1 l0_2 ((rd_T64 l0_2 x28_2).f0) ((rd_T64 l0_2 x28_2).f1) ((rd_T64 l0_2 x28_2).f2) ((rd_T64 l0_2 x28_2).f3)))) = some r := by rw [if_pos rfl] at H; exact H
         clear H
         have H := H1
         clear H1
         obtain ⟨t266, A21, H⟩ := bindS H
         by_cases c22 : t266 = true
         ·subst c22
          have H1 : ((impl_InRange.f ((rd_T64 l0_2 x28_2).f2) 0 5).bind fun t267 => (impl_IsMachine.j2 k2 x28_2 l0_2 (l0_2.length : Int) x28_2 (!t267) a0_0 l0_1 l0_2 ((rd_T64 l0_2 x28_2).f0) ((rd_T64 l0_2 x28_2).f1) ((rd_T64 l0_2 x28_2).f2) ((rd_T64 l0_2 x28_2).f3))) = some r := by rw [if_pos rfl] at H; exact H
          clear H
          have H := H1
          clear H1
          obtain ⟨t267, A23, H⟩ := bindS H
          have H' := Aside0.mk H
          clear H
          have hnb24 := NB264_261.out
          have hnc24 := NB261_264.out
          have hcz25_0 := bc0 BK264
          have hcz25_1 := bc1 BK264
          have hcz25_2 := bc2 BK264
          have hcz25_3 := bc3 BK264
          have hfz25_0 := bf BK264 0
          have hfz25_1 := bf BK264 1
          have hfz25_2 := bf BK264 2
          have hfz25_3 := bf BK264 3
          have hcz26_0 := bc0 BK261
          have hcz26_1 := bc1 BK261
          have hcz26_2 := bc2 BK261
          have hfz26_0 := bf BK261 0
          have hfz26_1 := bf BK261 1
          have hfz26_2 := bf BK261 2
          go_wp2_with (first | ((with_reducible refine gate_callee (f := 60) rfl ?_); refine goesL_ (some 38) rfl rfl Try.func60 (by kernel_rfl) rfl #[.int .i64 ((rd_T64 l0_2 x28_2).f0), .int .i64 0, .int .i64 (wrap64 (a0_0 - 1))] rfl zG ?_; (with_reducible refine (impl_InRange.calls ((rd_T64 l0_2 x28_2).f0) 0 (wrap64 (a0_0 - 1)) true _ A19.out).mono ?_); rintro e w' ⟨rfl, ⟨nd, rfl⟩⟩; refine ⟨_, rfl, ?_⟩) | (go_at_call 60; (with_reducible refine (impl_InRange.calls ((rd_T64 l0_2 x28_2).f3) 0 (wrap64 (a0_0 - 1)) true _ A21.out).mono ?_); rintro e w' ⟨rfl, ⟨nd, rfl⟩⟩) | (go_at_call 60; (with_reducible refine (impl_InRange.calls ((rd_T64 l0_2 x28_2).f2) 0 5 t267 _ A23.out).mono ?_); rintro e w' ⟨rfl, ⟨nd, rfl⟩⟩))
          go_meet
          case rel => exact ⟨_, (!t267), zF, H', ⟨by have := HJ1.out; have := HK2.out; first | omega | exact Nat.le_refl _⟩, ⟨by (with_reducible repeat (first | refine blk_drewN ?_ _ | refine blk_drew ?_ | refine blk_alloc ?_ _)); refine blk_far ?_ NB261_264.out _; (with_reducible repeat (first | refine blk_drewN ?_ _ | refine blk_drew ?_ | refine blk_alloc ?_ _)); refine blk_far ?_ NB261_264.out _; (with_reducible repeat (first | refine blk_drewN ?_ _ | refine blk_drew ?_ | refine blk_alloc ?_ _)); refine blk_far ?_ NB261_264.out _; (with_reducible repeat (first | refine blk_drewN ?_ _ | refine blk_drew ?_ | refine blk_alloc ?_ _)); refine blk_far ?_ NB261_264.out _; (with_reducible repeat (first | refine blk_drewN ?_ _ | refine blk_drew ?_ | refine blk_alloc ?_ _)); exact BK261.out⟩, ⟨by (with_reducible repeat (first | refine blk_drewN ?_ _ | refine blk_drew ?_ | refine blk_alloc ?_ _)); refine blk_put (cs := #[.int .i64 ((rd_T64 l0_2 x28_2).f0), .bool ((rd_T64 l0_2 x28_2).f1), .int .i64 ((rd_T64 l0_2 x28_2).f2), .int .i64 0]) ?_ 3 _ rfl; (with_reducible repeat (first | refine blk_drewN ?_ _ | refine blk_drew ?_ | refine blk_alloc ?_ _)); refine blk_put (cs := #[.int .i64 ((rd_T64 l0_2 x28_2).f0), .bool ((rd_T64 l0_2 x28_2).f1), .int .i64 0, .int .i64 0]) ?_ 2 _ rfl; (with_reducible repeat (first | refine blk_drewN ?_ _ | refine blk_drew ?_ | refine blk_alloc ?_ _)); refine blk_put (cs := #[.int .i64 ((rd_T64 l0_2 x28_2).f0), .bool false, .int .i64 0, .int .i64 0]) ?_ 1 _ rfl; (with_reducible repeat (first | refine blk_drewN ?_ _ | refine blk_drew ?_ | refine blk_alloc ?_ _)); refine blk_put (cs := #[.int .i64 0, .bool false, .int .i64 0, .int .i64 0]) ?_ 0 _ rfl; (with_reducible repeat (first | refine blk_drewN ?_ _ | refine blk_drew ?_ | refine blk_alloc ?_ _)); exact BK264.out⟩, ⟨zB HB⟩⟩
         ·replace c22 := Bool.eq_false_iff.mpr c22
          subst c22
          have H1 : (impl_IsMachine.j2 k2 x28_2 l0_2 (l0_2.length : Int) x28_2 true a0_0 l0_1 l0_2 ((rd_T64 l0_2 x28_2).f0) ((rd_T64 l0_2 x28_2).f1) ((rd_T64 l0_2 x28_2).f2) ((rd_T64 l0_2 x28_2).f3)) = some r := by rw [if_neg (show ¬ (false = true) by decide)] at H; exact H
          clear H
          have H := H1
          clear H1
          have H' := Aside0.mk H
          clear H
          have hnb27 := NB264_261.out
          have hnc27 := NB261_264.out
          have hcz28_0 := bc0 BK264
          have hcz28_1 := bc1 BK264
          have hcz28_2 := bc2 BK264
          have hcz28_3 := bc3 BK264
          have hfz28_0 := bf BK264 0
          have hfz28_1 := bf BK264 1
          have hfz28_2 := bf BK264 2
          have hfz28_3 := bf BK264 3
          have hcz29_0 := bc0 BK261
          have hcz29_1 := bc1 BK261
          have hcz29_2 := bc2 BK261
          have hfz29_0 := bf BK261 0
          have hfz29_1 := bf BK261 1
          have hfz29_2 := bf BK261 2
          go_wp2_with (first | ((with_reducible refine gate_callee (f := 60) rfl ?_); refine goesL_ (some 38) rfl rfl Try.func60 (by kernel_rfl) rfl #[.int .i64 ((rd_T64 l0_2 x28_2).f0), .int .i64 0, .int .i64 (wrap64 (a0_0 - 1))] rfl zG ?_; (with_reducible refine (impl_InRange.calls ((rd_T64 l0_2 x28_2).f0) 0 (wrap64 (a0_0 - 1)) true _ A19.out).mono ?_); rintro e w' ⟨rfl, ⟨nd, rfl⟩⟩; refine ⟨_, rfl, ?_⟩) | (go_at_call 60; (with_reducible refine (impl_InRange.calls ((rd_T64 l0_2 x28_2).f3) 0 (wrap64 (a0_0 - 1)) false _ A21.out).mono ?_); rintro e w' ⟨rfl, ⟨nd, rfl⟩⟩))
          go_meet
          case rel => exact ⟨_, (true), zF, H', ⟨by have := HJ1.out; have := HK2.out; first | omega | exact Nat.le_refl _⟩, ⟨by (with_reducible repeat (first | refine blk_drewN ?_ _ | refine blk_drew ?_ | refine blk_alloc ?_ _)); refine blk_far ?_ NB261_264.out _; (with_reducible repeat (first | refine blk_drewN ?_ _ | refine blk_drew ?_ | refine blk_alloc ?_ _)); refine blk_far ?_ NB261_264.out _; (with_reducible repeat (first | refine blk_drewN ?_ _ | refine blk_drew ?_ | refine blk_alloc ?_ _)); refine blk_far ?_ NB261_264.out _; (with_reducible repeat (first | refine blk_drewN ?_ _ | refine blk_drew ?_ | refine blk_alloc ?_ _)); refine blk_far ?_ NB261_264.out _; (with_reducible repeat (first | refine blk_drewN ?_ _ | refine blk_drew ?_ | refine blk_alloc ?_ _)); exact BK261.out⟩, ⟨by (with_reducible repeat (first | refine blk_drewN ?_ _ | refine blk_drew ?_ | refine blk_alloc ?_ _)); refine blk_put (cs := #[.int .i64 ((rd_T64 l0_2 x28_2).f0), .bool ((rd_T64 l0_2 x28_2).f1), .int .i64 ((rd_T64 l0_2 x28_2).f2), .int .i64 0]) ?_ 3 _ rfl; (with_reducible repeat (first | refine blk_drewN ?_ _ | refine blk_drew ?_ | refine blk_alloc ?_ _)); refine blk_put (cs := #[.int .i64 ((rd_T64 l0_2 x28_2).f0), .bool ((rd_T64 l0_2 x28_2).f1), .int .i64 0, .int .i64 0]) ?_ 2 _ rfl; (with_reducible repeat (first | refine blk_drewN ?_ _ | refine blk_drew ?_ | refine blk_alloc ?_ _)); refine blk_put (cs := #[.int .i64 ((rd_T64 l0_2 x28_2).f0), .bool false, .int .i64 0, .int .i64 0]) ?_ 1 _ rfl; (with_reducible repeat (first | refine blk_drewN ?_ _ | refine blk_drew ?_ | refine blk_alloc ?_ _)); refine blk_put (cs := #[.int .i64 0, .bool false, .int .i64 0, .int .i64 0]) ?_ 0 _ rfl; (with_reducible repeat (first | refine blk_drewN ?_ _ | refine blk_drew ?_ | refine blk_alloc ?_ _)); exact BK264.out⟩, ⟨zB HB⟩⟩
        ·replace c20 := Bool.eq_false_iff.mpr c20
         subst c20
         have H1 : (impl_IsMachine.j2 k2 x28_2 l0_2 (l0_2.length : Int) x28_2 true a0_0 l0_1 l0_2 ((rd_T64 l0_2 x28_2).f0) ((rd_T64 l0_2 x28_2).f1) ((rd_T64 l0_2 x28_2).f2) ((rd_T64 l0_2 x28_2).f3)) = some r := by rw [if_neg (show ¬ (false = true) by decide)] at H; exact H
         clear H
         have H := H1
         clear H1
         have H' := Aside0.mk H
         clear H
         have hnb30 := NB264_261.out
         have hnc30 := NB261_264.out
         have hcz31_0 := bc0 BK264
         have hcz31_1 := bc1 BK264
         have hcz31_2 := bc2 BK264
         have hcz31_3 := bc3 BK264
         have hfz31_0 := bf BK264 0
         have hfz31_1 := bf BK264 1
         have hfz31_2 := bf BK264 2
         have hfz31_3 := bf BK264 3
         have hcz32_0 := bc0 BK261
         have hcz32_1 := bc1 BK261
         have hcz32_2 := bc2 BK261
         have hfz32_0 := bf BK261 0
         have hfz32_1 := bf BK261 1
         have hfz32_2 := bf BK261 2
         go_wp2_with (first | ((with_reducible refine gate_callee (f := 60) rfl ?_); refine goesL_ (some 38) rfl rfl Try.func60 (by kernel_rfl) rfl #[.int .i64 ((rd_T64 l0_2 x28_2).f0), .int .i64 0, .int .i64 (wrap64 (a0_0 - 1))] rfl zG ?_; (with_reducible refine (impl_InRange.calls ((rd_T64 l0_2 x28_2).f0) 0 (wrap64 (a0_0 - 1)) false _ A19.out).mono ?_); rintro e w' ⟨rfl, ⟨nd, rfl⟩⟩; refine ⟨_, rfl, ?_⟩))
         go_meet
         case rel => exact ⟨_, (true), zF, H', ⟨by have := HJ1.out; have := HK2.out; first | omega | exact Nat.le_refl _⟩, ⟨by (with_reducible repeat (first | refine blk_drewN ?_ _ | refine blk_drew ?_ | refine blk_alloc ?_ _)); refine blk_far ?_ NB261_264.out _; (with_reducible repeat (first | refine blk_drewN ?_ _ | refine blk_drew ?_ | refine blk_alloc ?_ _)); refine blk_far ?_ NB261_264.out _; (with_reducible repeat (first | refine blk_drewN ?_ _ | refine blk_drew ?_ | refine blk_alloc ?_ _)); refine blk_far ?_ NB261_264.out _; (with_reducible repeat (first | refine blk_drewN ?_ _ | refine blk_drew ?_ | refine blk_alloc ?_ _)); refine blk_far ?_ NB261_264.out _; (with_reducible repeat (first | refine blk_drewN ?_ _ | refine blk_drew ?_ | refine blk_alloc ?_ _)); exact BK261.out⟩, ⟨by (with_reducible repeat (first | refine blk_drewN ?_ _ | refine blk_drew ?_ | refine blk_alloc ?_ _)); refine blk_put (cs := #[.int .i64 ((rd_T64 l0_2 x28_2).f0), .bool ((rd_T64 l0_2 x28_2).f1), .int .i64 ((rd_T64 l0_2 x28_2).f2), .int .i64 0]) ?_ 3 _ rfl; (with_reducible repeat (first | refine blk_drewN ?_ _ | refine blk_drew ?_ | refine blk_alloc ?_ _)); refine blk_put (cs := #[.int .i64 ((rd_T64 l0_2 x28_2).f0), .bool ((rd_T64 l0_2 x28_2).f1), .int .i64 0, .int .i64 0]) ?_ 2 _ rfl; (with_reducible repeat (first | refine blk_drewN ?_ _ | refine blk_drew ?_ | refine blk_alloc ?_ _)); refine blk_put (cs := #[.int .i64 ((rd_T64 l0_2 x28_2).f0), .bool false, .int .i64 0, .int .i64 0]) ?_ 1 _ rfl; (with_reducible repeat (first | refine blk_drewN ?_ _ | refine blk_drew ?_ | refine blk_alloc ?_ _)); refine blk_put (cs := #[.int .i64 0, .bool false, .int .i64 0, .int .i64 0]) ?_ 0 _ rfl; (with_reducible repeat (first | refine blk_drewN ?_ _ | refine blk_drew ?_ | refine blk_alloc ?_ _)); exact BK264.out⟩, ⟨zB HB⟩⟩
       case rest =>
        clear HC15
        try clear c1
        try clear c2
        try clear p2
        try clear q2
        try clear hx2
        try clear c3
        try clear c4
        try clear c5
        try clear c6
        try clear c6b0
        try clear c6b1
        try clear p6
        try clear c10
        try clear c12
        try clear c12b0
        try clear c13
        try clear c13b0
        try clear c14
        try clear c14b0
        try clear c17
        try clear c20
        try clear c22
        try clear c24
        try clear p26
        try clear q26
        try clear hx26
        try clear c27
        try clear c30
        try clear hcz11_0
        try clear hcz11_1
        try clear hcz11_2
        try clear hcz18_0
        try clear hcz18_1
        try clear hcz18_2
        try clear hcz18_3
        try clear hcz25_0
        try clear hcz25_1
        try clear hcz25_2
        try clear hcz25_3
        try clear hcz26_0
        try clear hcz26_1
        try clear hcz26_2
        try clear hcz28_0
        try clear hcz28_1
        try clear hcz28_2
        try clear hcz28_3
        try clear hcz29_0
        try clear hcz29_1
        try clear hcz29_2
        try clear hcz31_0
        try clear hcz31_1
        try clear hcz31_2
        try clear hcz31_3
        try clear hcz32_0
        try clear hcz32_1
        try clear hcz32_2
        try clear hcz7_0
        try clear hcz7_1
        try clear hcz7_2
        try clear hcz8_0
        try clear hcz8_1
        try clear hcz8_2
        try clear hcz9_0
        try clear hcz9_1
        try clear hcz9_2
        try clear hfz11_0
        try clear hfz11_1
        try clear hfz11_2
        try clear hfz18_0
        try clear hfz18_1
        try clear hfz18_2
        try clear hfz18_3
        try clear hfz25_0
        try clear hfz25_1
        try clear hfz25_2
        try clear hfz25_3
        try clear hfz26_0
        try clear hfz26_1
        try clear hfz26_2
        try clear hfz28_0
        try clear hfz28_1
        try clear hfz28_2
        try clear hfz28_3
        try clear hfz29_0
        try clear hfz29_1
        try clear hfz29_2
        try clear hfz31_0
        try clear hfz31_1
        try clear hfz31_2
        try clear hfz31_3
        try clear hfz32_0
        try clear hfz32_1
        try clear hfz32_2
        try clear hfz7_0
        try clear hfz7_1
        try clear hfz7_2
        try clear hfz8_0
        try clear hfz8_1
        try clear hfz8_2
        try clear hfz9_0
        try clear hfz9_1
        try clear hfz9_2
        try clear hx263_0
        try clear hx263_1
        try clear hx263_2
        try clear hx263_3
        try clear p2
        try clear p263
        try clear q263
        obtain ⟨kq, x54_14, rfl, HA, HJ14, BK261, BK264, HB⟩ := hcut
        cases kq with
        | zero => exact absurd HA.out (by simp [impl_IsMachine.j2])
        | succ kj14 =>
         have H := HA.out
         clear HA
         simp only [impl_IsMachine.j2] at H
         by_cases c33 : x54_14 = true
         ·subst c33
          have H1 : (some false) = some r := by rw [if_pos rfl] at H; exact H
          clear H
          have H := H1
          clear H1
          obtain rfl := Option.some.inj H
          go_wp2
          go_ret
          exact ⟨zE, zB HB⟩
         ·replace c33 := Bool.eq_false_iff.mpr c33
          subst c33
          have H1 : (if 0 ≤ x28_2 then (if x28_2 ≤ (l0_2.length : Int) then ((some (l0_2.take (x28_2 : Int).toNat : List (S64))).bind fun y268 => (impl_IsMachine.l1 kj14 l0_2 (l0_2.length : Int) x28_2 y268 (y268.length : Int) 0 a0_0 l0_1 l0_2 ((rd_T64 l0_2 x28_2).f0) ((rd_T64 l0_2 x28_2).f1) ((rd_T64 l0_2 x28_2).f2) ((rd_T64 l0_2 x28_2).f3))) else (none)) else (none)) = some r := by rw [if_neg (show ¬ (false = true) by decide)] at H; exact H
          clear H
          have H := H1
          clear H1
          obtain ⟨c34, H⟩ := ifS H
          have c34b0 := eq_true c34
          have c34b1 : decide (0 ≤ x28_2) = true := decide_eq_true c34
          clear c34
          obtain ⟨c35, H⟩ := ifS H
          have c35b0 := eq_true c35
          have c35b1 : decide (x28_2 ≤ (l0_2.length : Int)) = true := decide_eq_true c35
          clear c35
          obtain ⟨y268, hy268⟩ : ∃ y_ : List (S64), y_ = (l0_2.take (x28_2 : Int).toNat) := ⟨_, rfl⟩
          replace H : (impl_IsMachine.l1 kj14 l0_2 (l0_2.length : Int) x28_2 y268 (y268.length : Int) 0 a0_0 l0_1 l0_2 ((rd_T64 l0_2 x28_2).f0) ((rd_T64 l0_2 x28_2).f1) ((rd_T64 l0_2 x28_2).f2) ((rd_T64 l0_2 x28_2).f3)) = some r := by first | (rw [hy268]; with_reducible exact H) | (have H2_ := (Option.bind_some _ _).symm.trans H; rw [hy268]; with_reducible exact H2_) | (have H2_ := (Option.bind_some _ _).symm.trans H; with_reducible exact H2_) | with_reducible exact H | (rw [hy268]; exact H) | exact H
          have Ny268 := Aside0.mk hy268
          clear hy268
          have H' := Aside0.mk H
          clear H
          have hnb36 := NB261_264.out
          have hnc36 := NB264_261.out
          have hcz37_0 := bc0 BK261
          have hcz37_1 := bc1 BK261
          have hcz37_2 := bc2 BK261
          have hfz37_0 := bf BK261 0
          have hfz37_1 := bf BK261 1
          have hfz37_2 := bf BK261 2
          have q38 : (x28_2 : Int) ≤ ((l0_2.length : Int) : Int) := zD
          obtain ⟨i038, hi038, _, hsz38, _⟩ := info_parts info64
          have hroom38 : l0_2.length ≤ c0_2 := HC0_2.out
          have hC38 : Kd.C k64 _ (some ad263) l0_2.length l0_2 := HR0_2.out
          have hcut38 := cut_to (P := Try.prog) 29 64 .i64 Try.underlying29 hi038 (some ad263) l0_2.length c0_2 x28_2 (zD) q38 hroom38
          have hr38 := Kd.C_take (m := (x28_2 : Int).toNat) hC38 (by omega)
          have hy38 : y268.length = (x28_2 : Int).toNat := (by rw [Ny268.out, List.length_take]; omega)
          rw [← Ny268.out] at hr38
          rw [← hy38] at hcut38
          have HR271 := Aside0.mk hr38
          have HC271 := Aside0.mk (show y268.length ≤ c0_2 from by omega)
          clear hr38 hC38 hroom38 hi038 hsz38
          have KY38 := Aside0.mk hy38
          clear hy38
          replace q38 := eq_true q38
          go_wp2
          go_loopg [60] kj14 (fun kq v60 w' => ∃ (x60_4 : Int), v60 = .int .i64 x60_4 ∧ Aside0 (impl_IsMachine.l1 kq l0_2 (l0_2.length : Int) x28_2 y268 (y268.length : Int) x60_4 a0_0 l0_1 l0_2 ((rd_T64 l0_2 x28_2).f0) ((rd_T64 l0_2 x28_2).f1) ((rd_T64 l0_2 x28_2).f2) ((rd_T64 l0_2 x28_2).f3) = some r) ∧ Aside0 (kq ≤ kj14) ∧ Aside0 (w'.heap[gb261]? = some (.cells #[.int .i64 a0_0, (.slice A0_1 l0_1.length c0_1), (.slice (some ad263) l0_2.length c0_2)] 31 (0, 0))) ∧ Aside0 (w'.heap[gb264]? = some (.cells #[.int .i64 ((rd_T64 l0_2 x28_2).f0), .bool ((rd_T64 l0_2 x28_2).f1), .int .i64 ((rd_T64 l0_2 x28_2).f2), .int .i64 ((rd_T64 l0_2 x28_2).f3)] 64 (0, 0))) ∧ Aside0 (Below w.heap.size w w'))
          case atStart => exact ⟨(0), zF, H', ⟨Nat.le_refl _⟩, ⟨zK BK261⟩, ⟨zK BK264⟩, ⟨zB HB⟩⟩
          case round =>
           clear H'
           try clear c1
           try clear c2
           try clear p2
           try clear q2
           try clear hx2
           try clear c3
           try clear q3
           try clear c4
           try clear c5
           try clear c6
           try clear c6b0
           try clear c6b1
           try clear p6
           try clear c10
           try clear c12
           try clear c12b0
           try clear c13
           try clear c13b0
           try clear c14
           try clear c14b0
           try clear c17
           try clear c20
           try clear c22
           try clear c24
           try clear p26
           try clear q26
           try clear hx26
           try clear c27
           try clear c30
           try clear c33
           try clear c34
           try clear c34b0
           try clear c34b1
           try clear c35
           try clear c35b0
           try clear c35b1
           try clear c36
           try clear q38
           try clear hcz11_0
           try clear hcz11_1
           try clear hcz11_2
           try clear hcz18_0
           try clear hcz18_1
           try clear hcz18_2
           try clear hcz18_3
           try clear hcz25_0
           try clear hcz25_1
           try clear hcz25_2
           try clear hcz25_3
           try clear hcz26_0
           try clear hcz26_1
           try clear hcz26_2
           try clear hcz28_0
           try clear hcz28_1
           try clear hcz28_2
           try clear hcz28_3
           try clear hcz29_0
           try clear hcz29_1
           try clear hcz29_2
           try clear hcz31_0
           try clear hcz31_1
           try clear hcz31_2
           try clear hcz31_3
           try clear hcz32_0
           try clear hcz32_1
           try clear hcz32_2
           try clear hcz37_0
           try clear hcz37_1
           try clear hcz37_2
           try clear hcz7_0
           try clear hcz7_1
           try clear hcz7_2
           try clear hcz8_0
           try clear hcz8_1
           try clear hcz8_2
           try clear hcz9_0
           try clear hcz9_1
           try clear hcz9_2
           try clear hfz11_0
           try clear hfz11_1
           try clear hfz11_2
           try clear hfz18_0
           try clear hfz18_1
           try clear hfz18_2
           try clear hfz18_3
           try clear hfz25_0
           try clear hfz25_1
           try clear hfz25_2
           try clear hfz25_3
           try clear hfz26_0
           try clear hfz26_1
           try clear hfz26_2
           try clear hfz28_0
           try clear hfz28_1
           try clear hfz28_2
           try clear hfz28_3
           try clear hfz29_0
           try clear hfz29_1
           try clear hfz29_2
           try clear hfz31_0
           try clear hfz31_1
           try clear hfz31_2
           try clear hfz31_3
           try clear hfz32_0
           try clear hfz32_1
           try clear hfz32_2
           try clear hfz37_0
           try clear hfz37_1
           try clear hfz37_2
           try clear hfz7_0
           try clear hfz7_1
           try clear hfz7_2
           try clear hfz8_0
           try clear hfz8_1
           try clear hfz8_2
           try clear hfz9_0
           try clear hfz9_1
           try clear hfz9_2
           try clear hx263_0
           try clear hx263_1
           try clear hx263_2
           try clear hx263_3
           try clear p2
           try clear p26
           try clear p263
           try clear p6
           try clear q2
           try clear q26
           try clear q263
           try clear q38
           obtain ⟨x60_4, rfl, HA, HK4, BK261, BK264, HB⟩ := hrel
           cases gk with
           | zero => exact absurd HA.out (by simp [impl_IsMachine.l1])
           | succ k4 =>
            have H := HA.out
            clear HA
            simp only [impl_IsMachine.l1] at H
            by_cases c39 : x60_4 < (y268.length : Int)
            ·rw [if_pos c39] at H
             have c39b0 : decide (x60_4 < (y268.length : Int)) = true := decide_eq_true c39
             clear c39
             obtain ⟨c40, H⟩ := ifS H
             have c40b0 : decide (0 ≤ x60_4) = true := decide_eq_true c40
             clear c40
             obtain ⟨c41, H⟩ := ifS H
             have c41b0 : decide (x60_4 < (y268.length : Int)) = true := decide_eq_true c41
             clear c41
             by_cases c42 : ((rd_T64 y268 x60_4).f0) = ((rd_T64 l0_2 x28_2).f0)
             ·rw [if_pos c42] at H
              have c42b0 : (((rd_T64 y268 x60_4).f0) == ((rd_T64 l0_2 x28_2).f0)) = true := beq_iff_eq.mpr c42
              have c42b1 : (((rd_T64 y268 x60_4).f0) != ((rd_T64 l0_2 x28_2).f0)) = false := bne_eq_false_iff_eq.mpr c42
              clear c42
              by_cases c43 : (((rd_T64 y268 x60_4).f1) != ((rd_T64 l0_2 x28_2).f1)) = true
              ·rw [if_pos c43] at H
               have c43b0 : (((rd_T64 y268 x60_4).f1) != ((rd_T64 l0_2 x28_2).f1)) = true := c43
               (try (have c43b1 : decide (((rd_T64 y268 x60_4).f1) = ((rd_T64 l0_2 x28_2).f1)) = false := by simpa using c43))
               (try (have c43b2 : (((rd_T64 y268 x60_4).f1) == ((rd_T64 l0_2 x28_2).f1)) = false := by simpa using c43))
               (try (have c43b3 : ¬ (((rd_T64 y268 x60_4).f1) = ((rd_T64 l0_2 x28_2).f1)) := by simpa using c43))
               clear c43
               obtain rfl := Option.some.inj H
               have p272 : 0 ≤ (x60_4 : Int) := zD
               have q272 : x60_4 < (y268.length : Int) := zD
               obtain ⟨ad272, e272, hx272_0, hx272_1, hx272_2, hx272_3⟩ := at_T64 HR271.out x60_4 p272 q272
               obtain rfl : ad263 = ad272 := (by injection e272)
               replace hx272_0 := hL HB hx272_0
               replace hx272_1 := hL HB hx272_1
               replace hx272_2 := hL HB hx272_2
               replace hx272_3 := hL HB hx272_3
               replace p272 := eq_true p272
               replace q272 := eq_true q272
               go_wp2_with (first | ((with_reducible refine gate_dst (N := 6) rfl ?_); (try (refine gate_guard (by rfl) ?_; dsimp only)); refine box_event ?hg (N := 6) ?hd (cs := #[.int .i64 0, .bool false, .int .i64 0, .int .i64 0]) (t := 64) ?hr ?_; (case hd => rfl); (case hg => rfl); (case hr => first | (go_simp; done) | (go_simp; rfl)); intro gb273 hg w44 hbox hb; have BK273 := Aside0.mk (hbox); have GW273 := gS HB hg; have GE273 := gS HB hg; replace HB := bS HB hb; have NB261_273 := nL BK261 hg; have NB273_261 := nR BK261 hg; replace BK261 := kB BK261 hb; have NB264_273 := nL BK264 hg; have NB273_264 := nR BK264 hg; replace BK264 := kB BK264 hb; clear hb hbox hg; have hnb45 := NB273_261.out; have hnc45 := NB261_273.out; have hnb46 := NB273_264.out; have hnc46 := NB264_273.out; have hcz47_0 := bc0 BK273; have hcz47_1 := bc1 BK273; have hcz47_2 := bc2 BK273; have hcz47_3 := bc3 BK273; have hfz47_0 := bf BK273 0; have hfz47_1 := bf BK273 1; have hfz47_2 := bf BK273 2; have hfz47_3 := bf BK273 3; have hnb48 := NB264_261.out; have hnc48 := NB261_264.out; have hcz49_0 := bc0 BK264; have hcz49_1 := bc1 BK264; have hcz49_2 := bc2 BK264; have hcz49_3 := bc3 BK264; have hfz49_0 := bf BK264 0; have hfz49_1 := bf BK264 1; have hfz49_2 := bf BK264 2; have hfz49_3 := bf BK264 3))
               go_ret
               exact ⟨zE, zB HB⟩
              ·rw [if_neg c43] at H
               have c43b0 : (((rd_T64 y268 x60_4).f1) != ((rd_T64 l0_2 x28_2).f1)) = false := by simpa using c43
               (try (have c43b1 : decide (((rd_T64 y268 x60_4).f1) = ((rd_T64 l0_2 x28_2).f1)) = true := by simpa using c43))
               (try (have c43b2 : (((rd_T64 y268 x60_4).f1) == ((rd_T64 l0_2 x28_2).f1)) = true := by simpa using c43))
               clear c43
               by_cases c50 : ((rd_T64 y268 x60_4).f2) = ((rd_T64 l0_2 x28_2).f2)
               ·rw [if_pos c50] at H
                have c50b0 : (((rd_T64 y268 x60_4).f2) == ((rd_T64 l0_2 x28_2).f2)) = true := beq_iff_eq.mpr c50
                have c50b1 : (((rd_T64 y268 x60_4).f2) != ((rd_T64 l0_2 x28_2).f2)) = false := bne_eq_false_iff_eq.mpr c50
                clear c50
                obtain rfl := Option.some.inj H
                have p272 : 0 ≤ (x60_4 : Int) := zD
                have q272 : x60_4 < (y268.length : Int) := zD
                obtain ⟨ad272, e272, hx272_0, hx272_1, hx272_2, hx272_3⟩ := at_T64 HR271.out x60_4 p272 q272
                obtain rfl : ad263 = ad272 := (by injection e272)
                replace hx272_0 := hL HB hx272_0
                replace hx272_1 := hL HB hx272_1
                replace hx272_2 := hL HB hx272_2
                replace hx272_3 := hL HB hx272_3
                replace p272 := eq_true p272
                replace q272 := eq_true q272
                go_wp2_with (first | ((with_reducible refine gate_dst (N := 6) rfl ?_); (try (refine gate_guard (by rfl) ?_; dsimp only)); refine box_event ?hg (N := 6) ?hd (cs := #[.int .i64 0, .bool false, .int .i64 0, .int .i64 0]) (t := 64) ?hr ?_; (case hd => rfl); (case hg => rfl); (case hr => first | (go_simp; done) | (go_simp; rfl)); intro gb273 hg w51 hbox hb; have BK273 := Aside0.mk (hbox); have GW273 := gS HB hg; have GE273 := gS HB hg; replace HB := bS HB hb; have NB261_273 := nL BK261 hg; have NB273_261 := nR BK261 hg; replace BK261 := kB BK261 hb; have NB264_273 := nL BK264 hg; have NB273_264 := nR BK264 hg; replace BK264 := kB BK264 hb; clear hb hbox hg; have hnb52 := NB273_261.out; have hnc52 := NB261_273.out; have hnb53 := NB273_264.out; have hnc53 := NB264_273.out; have hcz54_0 := bc0 BK273; have hcz54_1 := bc1 BK273; have hcz54_2 := bc2 BK273; have hcz54_3 := bc3 BK273; have hfz54_0 := bf BK273 0; have hfz54_1 := bf BK273 1; have hfz54_2 := bf BK273 2; have hfz54_3 := bf BK273 3; have hnb55 := NB264_261.out; have hnc55 := NB261_264.out; have hcz56_0 := bc0 BK264; have hcz56_1 := bc1 BK264; have hcz56_2 := bc2 BK264; have hcz56_3 := bc3 BK264; have hfz56_0 := bf BK264 0; have hfz56_1 := bf BK264 1; have hfz56_2 := bf BK264 2; have hfz56_3 := bf BK264 3))
                go_ret
                exact ⟨zE, zB HB⟩
               ·rw [if_neg c50] at H
                have c50b0 : (((rd_T64 y268 x60_4).f2) == ((rd_T64 l0_2 x28_2).f2)) = false := beq_eq_false_iff_ne.mpr c50
                have c50b1 : (((rd_T64 y268 x60_4).f2) != ((rd_T64 l0_2 x28_2).f2)) = true := bne_iff_ne.mpr c50
                have H' := Aside0.mk H
                clear H
                have p272 : 0 ≤ (x60_4 : Int) := zD
                have q272 : x60_4 < (y268.length : Int) := zD
                obtain ⟨ad272, e272, hx272_0, hx272_1, hx272_2, hx272_3⟩ := at_T64 HR271.out x60_4 p272 q272
                obtain rfl : ad263 = ad272 := (by injection e272)
                replace hx272_0 := hL HB hx272_0
                replace hx272_1 := hL HB hx272_1
                replace hx272_2 := hL HB hx272_2
                replace hx272_3 := hL HB hx272_3
                replace p272 := eq_true p272
                replace q272 := eq_true q272
                go_wp2_with (first | ((with_reducible refine gate_dst (N := 6) rfl ?_); (try (refine gate_guard (by rfl) ?_; dsimp only)); refine box_event ?hg (N := 6) ?hd (cs := #[.int .i64 0, .bool false, .int .i64 0, .int .i64 0]) (t := 64) ?hr ?_; (case hd => rfl); (case hg => rfl); (case hr => first | (go_simp; done) | (go_simp; rfl)); intro gb273 hg w57 hbox hb; have BK273 := Aside0.mk (hbox); have GW273 := gS HB hg; have GE273 := gS HB hg; replace HB := bS HB hb; have NB261_273 := nL BK261 hg; have NB273_261 := nR BK261 hg; replace BK261 := kB BK261 hb; have NB264_273 := nL BK264 hg; have NB273_264 := nR BK264 hg; replace BK264 := kB BK264 hb; clear hb hbox hg; have hnb58 := NB273_261.out; have hnc58 := NB261_273.out; have hnb59 := NB273_264.out; have hnc59 := NB264_273.out; have hcz60_0 := bc0 BK273; have hcz60_1 := bc1 BK273; have hcz60_2 := bc2 BK273; have hcz60_3 := bc3 BK273; have hfz60_0 := bf BK273 0; have hfz60_1 := bf BK273 1; have hfz60_2 := bf BK273 2; have hfz60_3 := bf BK273 3; have hnb61 := NB264_261.out; have hnc61 := NB261_264.out; have hcz62_0 := bc0 BK264; have hcz62_1 := bc1 BK264; have hcz62_2 := bc2 BK264; have hcz62_3 := bc3 BK264; have hfz62_0 := bf BK264 0; have hfz62_1 := bf BK264 1; have hfz62_2 := bf BK264 2; have hfz62_3 := bf BK264 3))
                go_roundg k4
                case measure => have := HJ1.out; have := HK2.out; have := HJ14.out; have := HK4.out; omega
                case rel => exact ⟨(wrap64 (x60_4 + 1)), zF, H', ⟨by have := HJ1.out; have := HK2.out; have := HJ14.out; have := HK4.out; omega⟩, ⟨by (with_reducible repeat (first | refine blk_drewN ?_ _ | refine blk_drew ?_ | refine blk_alloc ?_ _)); refine blk_far ?_ NB261_273.out _; (with_reducible repeat (first | refine blk_drewN ?_ _ | refine blk_drew ?_ | refine blk_alloc ?_ _)); refine blk_far ?_ NB261_273.out _; (with_reducible repeat (first | refine blk_drewN ?_ _ | refine blk_drew ?_ | refine blk_alloc ?_ _)); refine blk_far ?_ NB261_273.out _; (with_reducible repeat (first | refine blk_drewN ?_ _ | refine blk_drew ?_ | refine blk_alloc ?_ _)); refine blk_far ?_ NB261_273.out _; (with_reducible repeat (first | refine blk_drewN ?_ _ | refine blk_drew ?_ | refine blk_alloc ?_ _)); exact BK261.out⟩, ⟨by (with_reducible repeat (first | refine blk_drewN ?_ _ | refine blk_drew ?_ | refine blk_alloc ?_ _)); refine blk_far ?_ NB264_273.out _; (with_reducible repeat (first | refine blk_drewN ?_ _ | refine blk_drew ?_ | refine blk_alloc ?_ _)); refine blk_far ?_ NB264_273.out _; (with_reducible repeat (first | refine blk_drewN ?_ _ | refine blk_drew ?_ | refine blk_alloc ?_ _)); refine blk_far ?_ NB264_273.out _; (with_reducible repeat (first | refine blk_drewN ?_ _ | refine blk_drew ?_ | refine blk_alloc ?_ _)); refine blk_far ?_ NB264_273.out _; (with_reducible repeat (first | refine blk_drewN ?_ _ | refine blk_drew ?_ | refine blk_alloc ?_ _)); exact BK264.out⟩, ⟨zB HB⟩⟩
             ·rw [if_neg c42] at H
              have c42b0 : (((rd_T64 y268 x60_4).f0) == ((rd_T64 l0_2 x28_2).f0)) = false := beq_eq_false_iff_ne.mpr c42
              have c42b1 : (((rd_T64 y268 x60_4).f0) != ((rd_T64 l0_2 x28_2).f0)) = true := bne_iff_ne.mpr c42
              have H' := Aside0.mk H
              clear H
              have p272 : 0 ≤ (x60_4 : Int) := zD
              have q272 : x60_4 < (y268.length : Int) := zD
              obtain ⟨ad272, e272, hx272_0, hx272_1, hx272_2, hx272_3⟩ := at_T64 HR271.out x60_4 p272 q272
              obtain rfl : ad263 = ad272 := (by injection e272)
              replace hx272_0 := hL HB hx272_0
              replace hx272_1 := hL HB hx272_1
              replace hx272_2 := hL HB hx272_2
              replace hx272_3 := hL HB hx272_3
              replace p272 := eq_true p272
              replace q272 := eq_true q272
              go_wp2_with (first | ((with_reducible refine gate_dst (N := 6) rfl ?_); (try (refine gate_guard (by rfl) ?_; dsimp only)); refine box_event ?hg (N := 6) ?hd (cs := #[.int .i64 0, .bool false, .int .i64 0, .int .i64 0]) (t := 64) ?hr ?_; (case hd => rfl); (case hg => rfl); (case hr => first | (go_simp; done) | (go_simp; rfl)); intro gb273 hg w63 hbox hb; have BK273 := Aside0.mk (hbox); have GW273 := gS HB hg; have GE273 := gS HB hg; replace HB := bS HB hb; have NB261_273 := nL BK261 hg; have NB273_261 := nR BK261 hg; replace BK261 := kB BK261 hb; have NB264_273 := nL BK264 hg; have NB273_264 := nR BK264 hg; replace BK264 := kB BK264 hb; clear hb hbox hg; have hnb64 := NB273_261.out; have hnc64 := NB261_273.out; have hnb65 := NB273_264.out; have hnc65 := NB264_273.out; have hcz66_0 := bc0 BK273; have hcz66_1 := bc1 BK273; have hcz66_2 := bc2 BK273; have hcz66_3 := bc3 BK273; have hfz66_0 := bf BK273 0; have hfz66_1 := bf BK273 1; have hfz66_2 := bf BK273 2; have hfz66_3 := bf BK273 3; have hnb67 := NB264_261.out; have hnc67 := NB261_264.out; have hcz68_0 := bc0 BK264; have hcz68_1 := bc1 BK264; have hcz68_2 := bc2 BK264; have hcz68_3 := bc3 BK264; have hfz68_0 := bf BK264 0; have hfz68_1 := bf BK264 1; have hfz68_2 := bf BK264 2; have hfz68_3 := bf BK264 3))
              go_roundg k4
              case measure => have := HJ1.out; have := HK2.out; have := HJ14.out; have := HK4.out; omega
              case rel => exact ⟨(wrap64 (x60_4 + 1)), zF, H', ⟨by have := HJ1.out; have := HK2.out; have := HJ14.out; have := HK4.out; omega⟩, ⟨by (with_reducible repeat (first | refine blk_drewN ?_ _ | refine blk_drew ?_ | refine blk_alloc ?_ _)); refine blk_far ?_ NB261_273.out _; (with_reducible repeat (first | refine blk_drewN ?_ _ | refine blk_drew ?_ | refine blk_alloc ?_ _)); refine blk_far ?_ NB261_273.out _; (with_reducible repeat (first | refine blk_drewN ?_ _ | refine blk_drew ?_ | refine blk_alloc ?_ _)); refine blk_far ?_ NB261_273.out _; (with_reducible repeat (first | refine blk_drewN ?_ _ | refine blk_drew ?_ | refine blk_alloc ?_ _)); refine blk_far ?_ NB261_273.out _; (with_reducible repeat (first | refine blk_drewN ?_ _ | refine blk_drew ?_ | refine blk_alloc ?_ _)); exact BK261.out⟩, ⟨by (with_reducible repeat (first | refine blk_drewN ?_ _ | refine blk_drew ?_ | refine blk_alloc ?_ _)); refine blk_far ?_ NB264_273.out _; (with_reducible repeat (first | refine blk_drewN ?_ _ | refine blk_drew ?_ | refine blk_alloc ?_ _)); refine blk_far ?_ NB264_273.out _; (with_reducible repeat (first | refine blk_drewN ?_ _ | refine blk_drew ?_ | refine blk_alloc ?_ _)); refine blk_far ?_ NB264_273.out _; (with_reducible repeat (first | refine blk_drewN ?_ _ | refine blk_drew ?_ | refine blk_alloc ?_ _)); refine blk_far ?_ NB264_273.out _; (with_reducible repeat (first | refine blk_drewN ?_ _ | refine blk_drew ?_ | refine blk_alloc ?_ _)); exact BK264.out⟩, ⟨zB HB⟩⟩
            ·rw [if_neg c39] at H
             have c39b0 : decide (x60_4 < (y268.length : Int)) = false := decide_eq_false c39
             clear c39
             have H' := Aside0.mk H
             clear H
             go_wp2
             go_roundg k4
             case measure => have := HJ1.out; have := HK2.out; have := HJ14.out; have := HK4.out; omega
             case rel => exact ⟨(wrap64 (x28_2 + 1)), zF, H', ⟨by have := HJ1.out; have := HK2.out; have := HJ14.out; have := HK4.out; omega⟩, ⟨zK BK261⟩, ⟨zB HB⟩⟩
      ·rw [if_neg c12] at H
       have c12b0 : decide (x28_2 < (l0_2.length : Int)) = false := decide_eq_false c12
       clear c12
       obtain rfl := Option.some.inj H
       go_wp2
       go_ret
       exact ⟨zE, zB HB⟩

-- NOT PRINTED: function 73 (slices_IndexFunc_int_int)

-- NOT PRINTED: function 61 (slices_ContainsFunc_int_int)

end Go.Proofs.Ytmenijbpglknbaa.PFnExactPairsOf
