-- WRITTEN by pp.py, this session's own wrapper around the print; not trusted: Lean checks it
import Derived.Test.YtfibjclnaeocbaaPFnPairsx0
import Derived.Test.YtfibjclnaeocbaaPFnPairsx6
namespace Go.Proofs.Ytfibjclnaeocbaa.PFnPairs
open Go.RowKit Go.Proofs.Ytfibjclnaeocbaa.Hw Go.Proofs.YtfibjclnaeocbaaW.PrintWords Go.Proofs.YtfibjclnaeocbaaW.PrintLast Go.Proofs.YtfibjclnaeocbaaW.PrintMore
attribute [local go_sem] max2_int min2_int max_two min_two max_three min_three max_four min_four   -- for this text's walks alone
set_option linter.unusedVariables false
set_option linter.unusedSimpArgs false
set_option linter.unusedSectionVars false

/-! ### impl_IsMachine: function 10 -/
mutual
def impl_IsMachine.j0 : Nat → Bool → Int → List Bool → List (S46) → Option (Bool)
 | 0, _, _, _, _ => none
 | k + 1, x24, x363000, x363001, x363002 => if x24 = true then (some false) else (impl_IsMachine.l0 k x363002 (x363002.length : Int) 0 x363000 x363001 x363002)
def impl_IsMachine.l0 : Nat → List (S46) → Int → Int → Int → List Bool → List (S46) → Option (Bool)
 | 0, _, _, _, _, _, _ => none
 | k + 1, x26, x27, x28, x363000, x363001, x363002 => if x28 < x27 then (if 0 ≤ x28 then (if x28 < (x26.length : Int) then ((impl_InRange.f ((rd_T46 x26 x28).f0) 0 (wrap64 (x363000 - 1))).bind fun t366 => (if t366 = true then ((impl_InRange.f ((rd_T46 x26 x28).f3) 0 (wrap64 (x363000 - 1))).bind fun t367 => (if t367 = true then ((impl_InRange.f ((rd_T46 x26 x28).f2) 0 5).bind fun t368 => (impl_IsMachine.j2 k x28 x26 x27 x28 (!t368) x363000 x363001 x363002 ((rd_T46 x26 x28).f0) ((rd_T46 x26 x28).f1) ((rd_T46 x26 x28).f2) ((rd_T46 x26 x28).f3))) else (impl_IsMachine.j2 k x28 x26 x27 x28 true x363000 x363001 x363002 ((rd_T46 x26 x28).f0) ((rd_T46 x26 x28).f1) ((rd_T46 x26 x28).f2) ((rd_T46 x26 x28).f3)))) else (impl_IsMachine.j2 k x28 x26 x27 x28 true x363000 x363001 x363002 ((rd_T46 x26 x28).f0) ((rd_T46 x26 x28).f1) ((rd_T46 x26 x28).f2) ((rd_T46 x26 x28).f3)))) else (none)) else (none)) else (some true)
def impl_IsMachine.j2 : Nat → Int → List (S46) → Int → Int → Bool → Int → List Bool → List (S46) → Int → Bool → Int → Int → Option (Bool)
 | 0, _, _, _, _, _, _, _, _, _, _, _, _ => none
 | k + 1, x3, x26, x27, x28, x54, x363000, x363001, x363002, x366000, x366001, x366002, x366003 => if x54 = true then (some false) else (if 0 ≤ x3 then (if x3 ≤ (x363002.length : Int) then ((some (x363002.take (x3 : Int).toNat : List (S46))).bind fun y369 => (impl_IsMachine.l1 k x26 x27 x28 y369 (y369.length : Int) 0 x363000 x363001 x363002 x366000 x366001 x366002 x366003)) else (none)) else (none))
def impl_IsMachine.l1 : Nat → List (S46) → Int → Int → List (S46) → Int → Int → Int → List Bool → List (S46) → Int → Bool → Int → Int → Option (Bool)
 | 0, _, _, _, _, _, _, _, _, _, _, _, _, _ => none
 | k + 1, x26, x27, x28, x58, x59, x60, x363000, x363001, x363002, x366000, x366001, x366002, x366003 => if x60 < x59 then (if 0 ≤ x60 then (if x60 < (x58.length : Int) then (if ((rd_T46 x58 x60).f0) = x366000 then (if (((rd_T46 x58 x60).f1) != x366001) = true then (some false) else (if ((rd_T46 x58 x60).f2) = x366002 then (some false) else (impl_IsMachine.l1 k x26 x27 x28 x58 x59 (wrap64 (x60 + 1)) x363000 x363001 x363002 x366000 x366001 x366002 x366003))) else (impl_IsMachine.l1 k x26 x27 x28 x58 x59 (wrap64 (x60 + 1)) x363000 x363001 x363002 x366000 x366001 x366002 x366003)) else (none)) else (none)) else (impl_IsMachine.l0 k x26 x27 (wrap64 (x28 + 1)) x363000 x363001 x363002)
end
def impl_IsMachine.f (k : Nat) (a0_0 : Int) (l0_1 : List Bool) (l0_2 : List (S46)) : Option (Bool) := (impl_InRange.f a0_0 1 6).bind fun t363 => (if t363 = true then (if (l0_1.length : Int) = a0_0 then (impl_IsMachine.j0 k (decide ((l0_2.length : Int) > 12)) a0_0 l0_1 l0_2) else (impl_IsMachine.j0 k true a0_0 l0_1 l0_2)) else (impl_IsMachine.j0 k true a0_0 l0_1 l0_2))
theorem impl_IsMachine.mono_l : ∀ k, (∀ y0 y1 y2 y3, LeO (impl_IsMachine.j0 k y0 y1 y2 y3) (impl_IsMachine.j0 (k + 1) y0 y1 y2 y3)) ∧ (∀ y0 y1 y2 y3 y4 y5, LeO (impl_IsMachine.l0 k y0 y1 y2 y3 y4 y5) (impl_IsMachine.l0 (k + 1) y0 y1 y2 y3 y4 y5)) ∧ (∀ y0 y1 y2 y3 y4 y5 y6 y7 y8 y9 y10 y11, LeO (impl_IsMachine.j2 k y0 y1 y2 y3 y4 y5 y6 y7 y8 y9 y10 y11) (impl_IsMachine.j2 (k + 1) y0 y1 y2 y3 y4 y5 y6 y7 y8 y9 y10 y11)) ∧ (∀ y0 y1 y2 y3 y4 y5 y6 y7 y8 y9 y10 y11 y12, LeO (impl_IsMachine.l1 k y0 y1 y2 y3 y4 y5 y6 y7 y8 y9 y10 y11 y12) (impl_IsMachine.l1 (k + 1) y0 y1 y2 y3 y4 y5 y6 y7 y8 y9 y10 y11 y12))
 | 0 => ⟨fun _ _ _ _ r h => by simp [impl_IsMachine.j0] at h, fun _ _ _ _ _ _ r h => by simp [impl_IsMachine.l0] at h, fun _ _ _ _ _ _ _ _ _ _ _ _ r h => by simp [impl_IsMachine.j2] at h, fun _ _ _ _ _ _ _ _ _ _ _ _ _ r h => by simp [impl_IsMachine.l1] at h⟩
 | k + 1 => by
  obtain ⟨ih0, ih1, ih2, ih3⟩ := impl_IsMachine.mono_l k
  refine ⟨?a0, ?a1, ?a2, ?a3⟩
  case' a0 => intros; unfold impl_IsMachine.j0
  case' a1 => intros; unfold impl_IsMachine.l0
  case' a2 => intros; unfold impl_IsMachine.j2
  case' a3 => intros; unfold impl_IsMachine.l1
  all_goals repeat' first
  | (with_reducible first | exact ih0 _ _ _ _ | exact ih1 _ _ _ _ _ _ | exact ih2 _ _ _ _ _ _ _ _ _ _ _ _ | exact ih3 _ _ _ _ _ _ _ _ _ _ _ _ _ | exact LeO.refl _ | exact LeO.none _ | refine LeO.ite ?_ ?_ | refine LeO.bind ?_ (fun _ => ?_))
  | exact ih0 _ _ _ _
  | exact ih1 _ _ _ _ _ _
  | exact ih2 _ _ _ _ _ _ _ _ _ _ _ _
  | exact ih3 _ _ _ _ _ _ _ _ _ _ _ _ _
  | exact LeO.none _
  | refine LeO.ite ?_ ?_
  | refine LeO.bind ?_ (fun _ => ?_)
theorem impl_IsMachine.mono : ∀ a0 a1 a2 k, LeO (impl_IsMachine.f k a0 a1 a2) (impl_IsMachine.f (k + 1) a0 a1 a2) := by
 intro a0 a1 a2 k
 obtain ⟨ih0, ih1, ih2, ih3⟩ := impl_IsMachine.mono_l k
 unfold impl_IsMachine.f
 repeat' first
   | (with_reducible first | exact ih0 _ _ _ _ | exact ih1 _ _ _ _ _ _ | exact ih2 _ _ _ _ _ _ _ _ _ _ _ _ | exact ih3 _ _ _ _ _ _ _ _ _ _ _ _ _ | exact LeO.refl _ | exact LeO.none _ | refine LeO.ite ?_ ?_ | refine LeO.bind ?_ (fun _ => ?_))
   | exact ih0 _ _ _ _
   | exact ih1 _ _ _ _ _ _
   | exact ih2 _ _ _ _ _ _ _ _ _ _ _ _
   | exact ih3 _ _ _ _ _ _ _ _ _ _ _ _ _
   | exact LeO.none _
   | refine LeO.ite ?_ ?_
   | refine LeO.bind ?_ (fun _ => ?_)
set_option maxHeartbeats 8000000 in
set_option maxRecDepth 100000 in
theorem impl_IsMachine.calls (k : Nat) (a0_0 : Int) (A0_1 : Option Addr) (c0_1 : Nat) (l0_1 : List Bool) (A0_2 : Option Addr) (c0_2 : Nat) (l0_2 : List (S46)) (r : Bool) (w : World) (hr0_1 : Kd.C Kd.bool w A0_1 l0_1.length l0_1) (hc0_1 : l0_1.length ≤ c0_1) (hr0_2 : Kd.C k46 w A0_2 l0_2.length l0_2) (hc0_2 : l0_2.length ≤ c0_2) (h : impl_IsMachine.f k a0_0 l0_1 l0_2 = some r) :
  Calls Try.prog 10 #[.agg #[.int .i64 a0_0, .slice A0_1 l0_1.length c0_1, .slice A0_2 l0_2.length c0_2]] w fun e w' => e = .returned (.bool r) ∧ Below w.heap.size w w' := by
 have hu27 := Try.underlying27
 have hu46 := Try.underlying46
 have HR0_1 := aM hr0_1
 have HC0_1 := aM hc0_1
 clear hr0_1 hc0_1
 have HR0_2 := aM hr0_2
 have HC0_2 := aM hc0_2
 clear hr0_2 hc0_2
 have HB := aM (Below.refl w.heap.size w)
 have H : ((impl_InRange.f a0_0 1 6).bind fun t363 => (if t363 = true then (if (l0_1.length : Int) = a0_0 then (impl_IsMachine.j0 k (decide ((l0_2.length : Int) > 12)) a0_0 l0_1 l0_2) else (impl_IsMachine.j0 k true a0_0 l0_1 l0_2)) else (impl_IsMachine.j0 k true a0_0 l0_1 l0_2))) = some r := h
 clear h
 have HC2 := aM H
 clear H
 go_enter Try.func10, Try.ntmps10
 go_upto_region 1 with (first | ((with_reducible refine gD (N := 1) rfl ?_); (try (refine gate_guard (by rfl) ?_; dsimp only)); refine box_event ?hg (N := 1) ?hd (cs := #[.int .i64 a0_0, .slice A0_1 l0_1.length c0_1, .slice A0_2 l0_2.length c0_2]) (t := 27) ?hr ?_; (case hd => rfl); (case hg => rfl); (case hr => first | (go_simp; done) | (go_simp; rfl)); intro gb362 hg w3 hbox hb; have BK362 := aM (hbox); have GW362 := gS HB hg; have GE362 := gS HB hg; replace HB := bS HB hb; clear hb hbox hg))
 (try simp only [Act.put, lA, lB, lC])
 go_cut [24] (fun v24 wc => ∃ (kq : Nat) (x24_1 : Bool), v24 = .bool x24_1 ∧ Aside0 (impl_IsMachine.j0 kq x24_1 a0_0 l0_1 l0_2 = some r) ∧ Aside0 (kq ≤ k) ∧ Aside0 (wc.heap[gb362]? = some (.cells #[.int .i64 a0_0, (.slice A0_1 l0_1.length c0_1), (.slice A0_2 l0_2.length c0_2)] 27 (0, 0))) ∧ Aside0 (Below w.heap.size w wc))
 case first =>
  have H := HC2.o
  clear HC2
  obtain ⟨t363, A4, H⟩ := bindS H
  by_cases c5 : t363 = true
  ·subst c5
   have H1 : (if (l0_1.length : Int) = a0_0 then (impl_IsMachine.j0 k (decide ((l0_2.length : Int) > 12)) a0_0 l0_1 l0_2) else (impl_IsMachine.j0 k true a0_0 l0_1 l0_2)) = some r := by rw [if_pos rfl] at H; exact H
   clear H
   have H := H1
   clear H1
   by_cases c6 : (l0_1.length : Int) = a0_0
   ·rw [if_pos c6] at H
    have c6b0 : ((l0_1.length : Int) == a0_0) = true := beq_iff_eq.mpr c6
    have c6b1 : ((l0_1.length : Int) != a0_0) = false := bne_eq_false_iff_eq.mpr c6
    clear c6
    (first | rw [c6b0] | (simp only [i64_w, i32_w]; rw [c6b0]) | skip)
    have H' := aM H
    clear H
    obtain ⟨z7_0, z7_1, z7_2, f7_0, f7_1, f7_2⟩ := bq3 BK362
    go_wp2_with (first | ((with_reducible refine gC (f := 22) rfl ?_); refine goesL_ (some 9) rfl rfl Try.func22 (by kernel_rfl) rfl #[.int .i64 a0_0, .int .i64 1, .int .i64 6] rfl zG ?_; (with_reducible refine (impl_InRange.calls a0_0 1 6 true _ A4.o).mono ?_); rintro e w' ⟨rfl, ⟨nd, rfl⟩⟩; refine ⟨_, rfl, ?_⟩))
    go_meet
    case rel => exact ⟨_, (decide ((l0_2.length : Int) > 12)), zF, H', ⟨by first | omega | exact Nat.le_refl _⟩, ⟨zK BK362⟩, ⟨zB HB⟩⟩
   ·rw [if_neg c6] at H
    have c6b0 : ((l0_1.length : Int) == a0_0) = false := beq_eq_false_iff_ne.mpr c6
    have c6b1 : ((l0_1.length : Int) != a0_0) = true := bne_iff_ne.mpr c6
    (first | rw [c6b0] | (simp only [i64_w, i32_w]; rw [c6b0]) | skip)
    have H' := aM H
    clear H
    obtain ⟨z8_0, z8_1, z8_2, f8_0, f8_1, f8_2⟩ := bq3 BK362
    go_wp2_with (first | ((with_reducible refine gC (f := 22) rfl ?_); refine goesL_ (some 9) rfl rfl Try.func22 (by kernel_rfl) rfl #[.int .i64 a0_0, .int .i64 1, .int .i64 6] rfl zG ?_; (with_reducible refine (impl_InRange.calls a0_0 1 6 true _ A4.o).mono ?_); rintro e w' ⟨rfl, ⟨nd, rfl⟩⟩; refine ⟨_, rfl, ?_⟩))
    go_meet
    case rel => exact ⟨_, (true), zF, H', ⟨by first | omega | exact Nat.le_refl _⟩, ⟨zK BK362⟩, ⟨zB HB⟩⟩
  ·replace c5 := Bool.eq_false_iff.mpr c5
   subst c5
   have H1 : (impl_IsMachine.j0 k true a0_0 l0_1 l0_2) = some r := by rw [if_neg (show ¬ (false = true) by decide)] at H; exact H
   clear H
   have H := H1
   clear H1
   have H' := aM H
   clear H
   obtain ⟨z9_0, z9_1, z9_2, f9_0, f9_1, f9_2⟩ := bq3 BK362
   go_wp2_with (first | ((with_reducible refine gC (f := 22) rfl ?_); refine goesL_ (some 9) rfl rfl Try.func22 (by kernel_rfl) rfl #[.int .i64 a0_0, .int .i64 1, .int .i64 6] rfl zG ?_; (with_reducible refine (impl_InRange.calls a0_0 1 6 false _ A4.o).mono ?_); rintro e w' ⟨rfl, ⟨nd, rfl⟩⟩; refine ⟨_, rfl, ?_⟩))
   go_meet
   case rel => exact ⟨_, (true), zF, H', ⟨by first | omega | exact Nat.le_refl _⟩, ⟨zK BK362⟩, ⟨zB HB⟩⟩
 case rest =>
  clear HC2
  try clear c1
  try clear c2
  try clear p2
  try clear c5
  try clear c6
  try clear c6b0
  try clear c6b1
  try clear z7_0
  try clear z7_1
  try clear z7_2
  try clear z8_0
  try clear z8_1
  try clear z8_2
  try clear z9_0
  try clear z9_1
  try clear z9_2
  try clear f7_0
  try clear f7_1
  try clear f7_2
  try clear f8_0
  try clear f8_1
  try clear f8_2
  try clear f9_0
  try clear f9_1
  try clear f9_2
  obtain ⟨kq, x24_1, rfl, HA, HJ1, BK362, HB⟩ := hcut
  cases kq with
  | zero => exact absurd HA.o (by simp [impl_IsMachine.j0])
  | succ kj1 =>
   have H := HA.o
   clear HA
   simp only [impl_IsMachine.j0] at H
   by_cases c10 : x24_1 = true
   ·subst c10
    have H1 : (some false) = some r := by rw [if_pos rfl] at H; exact H
    clear H
    have H := H1
    clear H1
    obtain rfl := oI H
    go_wp2
    go_ret
    exact ⟨zE, zB HB⟩
   ·replace c10 := Bool.eq_false_iff.mpr c10
    subst c10
    have H1 : (impl_IsMachine.l0 kj1 l0_2 (l0_2.length : Int) 0 a0_0 l0_1 l0_2) = some r := by rw [if_neg (show ¬ (false = true) by decide)] at H; exact H
    clear H
    have H := H1
    clear H1
    have H' := aM H
    clear H
    obtain ⟨z11_0, z11_1, z11_2, f11_0, f11_1, f11_2⟩ := bq3 BK362
    go_wp2
    go_loopg [28] kj1 (fun kq v28 w' => ∃ (x28_2 : Int), v28 = .int .i64 x28_2 ∧ Aside0 (impl_IsMachine.l0 kq l0_2 (l0_2.length : Int) x28_2 a0_0 l0_1 l0_2 = some r) ∧ Aside0 (kq ≤ kj1) ∧ Aside0 (w'.heap[gb362]? = some (.cells #[.int .i64 a0_0, (.slice A0_1 l0_1.length c0_1), (.slice A0_2 l0_2.length c0_2)] 27 (0, 0))) ∧ Aside0 (Below w.heap.size w w'))
    case atStart => exact ⟨(0), zF, H', ⟨Nat.le_refl _⟩, ⟨zK BK362⟩, ⟨zB HB⟩⟩
    case round =>
     clear H'
     try clear c1
     try clear c2
     try clear p2
     try clear c5
     try clear c6
     try clear c6b0
     try clear c6b1
     try clear c10
     try clear z11_0
     try clear z11_1
     try clear z11_2
     try clear z7_0
     try clear z7_1
     try clear z7_2
     try clear z8_0
     try clear z8_1
     try clear z8_2
     try clear z9_0
     try clear z9_1
     try clear z9_2
     try clear f11_0
     try clear f11_1
     try clear f11_2
     try clear f7_0
     try clear f7_1
     try clear f7_2
     try clear f8_0
     try clear f8_1
     try clear f8_2
     try clear f9_0
     try clear f9_1
     try clear f9_2
     try clear p2
     obtain ⟨x28_2, rfl, HA, HK2, BK362, HB⟩ := hrel
     cases gk with
     | zero => exact absurd HA.o (by simp [impl_IsMachine.l0])
     | succ k2 =>
      have H := HA.o
      clear HA
      simp only [impl_IsMachine.l0] at H
      by_cases c12 : x28_2 < (l0_2.length : Int)
      ·rw [if_pos c12] at H
       have c12b0 : decide (x28_2 < (l0_2.length : Int)) = true := dT c12
       clear c12
       obtain ⟨c13, H⟩ := ifS H
       have c13b0 : decide (0 ≤ x28_2) = true := dT c13
       clear c13
       obtain ⟨c14, H⟩ := ifS H
       have c14b0 : decide (x28_2 < (l0_2.length : Int)) = true := dT c14
       clear c14
       have HC15 := aM H
       clear H
       have p364 : 0 ≤ (x28_2 : Int) := zD
       have q364 : x28_2 < (l0_2.length : Int) := zD
       obtain ⟨ad364, e364, hx364_0, hx364_1, hx364_2, hx364_3⟩ := at_T46 HR0_2.o x28_2 p364 q364
       cases e364
       replace hx364_0 := hL HB hx364_0
       replace hx364_1 := hL HB hx364_1
       replace hx364_2 := hL HB hx364_2
       replace hx364_3 := hL HB hx364_3
       replace p364 := eq_true p364
       replace q364 := eq_true q364
       go_upto_region 6 with (first | ((with_reducible refine gD (N := 4) rfl ?_); (try (refine gate_guard (by rfl) ?_; dsimp only)); refine box_event ?hg (N := 4) ?hd (cs := #[.int .i64 0, .bool false, .int .i64 0, .int .i64 0]) (t := 46) ?hr ?_; (case hd => rfl); (case hg => rfl); (case hr => first | (go_simp; done) | (go_simp; rfl)); intro gb365 hg w16 hbox hb; have BK365 := aM (hbox); have GW365 := gS HB hg; have GE365 := gS HB hg; replace HB := bS HB hb; have NB362_365 := nL BK362 hg; have NB365_362 := nR BK362 hg; replace BK362 := kB BK362 hb; clear hb hbox hg; have hnb17 := NB365_362.o; have hnc17 := NB362_365.o; obtain ⟨z18_0, z18_1, z18_2, z18_3, f18_0, f18_1, f18_2, f18_3⟩ := bq4 BK365))
       (try simp only [Act.put, lA, lB, lC])
       go_cut [54] (fun v54 wc => ∃ (kq : Nat) (x54_14 : Bool), v54 = .bool x54_14 ∧ Aside0 (impl_IsMachine.j2 kq x28_2 l0_2 (l0_2.length : Int) x28_2 x54_14 a0_0 l0_1 l0_2 ((rd_T46 l0_2 x28_2).f0) ((rd_T46 l0_2 x28_2).f1) ((rd_T46 l0_2 x28_2).f2) ((rd_T46 l0_2 x28_2).f3) = some r) ∧ Aside0 (kq ≤ k2) ∧ Aside0 (wc.heap[gb362]? = some (.cells #[.int .i64 a0_0, (.slice A0_1 l0_1.length c0_1), (.slice (some ad364) l0_2.length c0_2)] 27 (0, 0))) ∧ Aside0 (wc.heap[gb365]? = some (.cells #[.int .i64 ((rd_T46 l0_2 x28_2).f0), .bool ((rd_T46 l0_2 x28_2).f1), .int .i64 ((rd_T46 l0_2 x28_2).f2), .int .i64 ((rd_T46 l0_2 x28_2).f3)] 46 (0, 0))) ∧ Aside0 (Below w.heap.size w wc))
       case first =>
        have H := HC15.o
        clear HC15
        obtain ⟨t366, A19, H⟩ := bindS H
        by_cases c20 : t366 = true
        ·subst c20
         have H1 : ((impl_InRange.f ((rd_T46 l0_2 x28_2).f3) 0 (wrap64 (a0_0 - 1))).bind fun t367 => (if t367 = true then ((impl_InRange.f ((rd_T46 l0_2 x28_2).f2) 0 5).bind fun t368 => (impl_IsMachine.j2 k2 x28_2 l0_2 (l0_2.length : Int) x28_2 (!t368) a0_0 l0_1 l0_2 ((rd_T46 l0_2 x28_2).f0) ((rd_T46 l0_2 x28_2).f1) ((rd_T46 l0_2 x28_2).f2) ((rd_T46 l0_2 x28_2).f3))) else (impl_IsMachine.j2 k2 x28_2 l0_2 (l0_2.length : Int) x28_2 true a0_0 l0_1 l0_2 ((rd_T46 l0_2 x28_2).f0) ((rd_T46 l0_2 x28_2).f1) ((rd_T46 l0_2 x28_2).f2) ((rd_T46 l0_2 x28_2).f3)))) = some r := by rw [if_pos rfl] at H; exact H
         clear H
         have H := H1
         clear H1
         obtain ⟨t367, A21, H⟩ := bindS H
         by_cases c22 : t367 = true
         ·subst c22
          have H1 : ((impl_InRange.f ((rd_T46 l0_2 x28_2).f2) 0 5).bind fun t368 => (impl_IsMachine.j2 k2 x28_2 l0_2 (l0_2.length : Int) x28_2 (!t368) a0_0 l0_1 l0_2 ((rd_T46 l0_2 x28_2).f0) ((rd_T46 l0_2 x28_2).f1) ((rd_T46 l0_2 x28_2).f2) ((rd_T46 l0_2 x28_2).f3))) = some r := by rw [if_pos rfl] at H; exact H
          clear H
          have H := H1
          clear H1
          obtain ⟨t368, A23, H⟩ := bindS H
          have H' := aM H
          clear H
          have hnb24 := NB365_362.o
          have hnc24 := NB362_365.o
          obtain ⟨z25_0, z25_1, z25_2, z25_3, f25_0, f25_1, f25_2, f25_3⟩ := bq4 BK365
          obtain ⟨z26_0, z26_1, z26_2, f26_0, f26_1, f26_2⟩ := bq3 BK362
          go_wp2_with (first | ((with_reducible refine gC (f := 22) rfl ?_); refine goesL_ (some 38) rfl rfl Try.func22 (by kernel_rfl) rfl #[.int .i64 ((rd_T46 l0_2 x28_2).f0), .int .i64 0, .int .i64 (wrap64 (a0_0 - 1))] rfl zG ?_; (with_reducible refine (impl_InRange.calls ((rd_T46 l0_2 x28_2).f0) 0 (wrap64 (a0_0 - 1)) true _ A19.o).mono ?_); rintro e w' ⟨rfl, ⟨nd, rfl⟩⟩; refine ⟨_, rfl, ?_⟩) | (go_at_call 22; (with_reducible refine (impl_InRange.calls ((rd_T46 l0_2 x28_2).f3) 0 (wrap64 (a0_0 - 1)) true _ A21.o).mono ?_); rintro e w' ⟨rfl, ⟨nd, rfl⟩⟩) | (go_at_call 22; (with_reducible refine (impl_InRange.calls ((rd_T46 l0_2 x28_2).f2) 0 5 t368 _ A23.o).mono ?_); rintro e w' ⟨rfl, ⟨nd, rfl⟩⟩))
          go_meet
          case rel => exact ⟨_, (!t368), zF, H', ⟨by have := HJ1.o; have := HK2.o; first | omega | exact Nat.le_refl _⟩, ⟨kF BK362⟩, ⟨by (with_reducible repeat (first | apply bN | apply bD | apply bA)); refine bP (cs := #[.int .i64 ((rd_T46 l0_2 x28_2).f0), .bool ((rd_T46 l0_2 x28_2).f1), .int .i64 ((rd_T46 l0_2 x28_2).f2), .int .i64 0]) ?_ 3 _ rfl; (with_reducible repeat (first | apply bN | apply bD | apply bA)); refine bP (cs := #[.int .i64 ((rd_T46 l0_2 x28_2).f0), .bool ((rd_T46 l0_2 x28_2).f1), .int .i64 0, .int .i64 0]) ?_ 2 _ rfl; (with_reducible repeat (first | apply bN | apply bD | apply bA)); refine bP (cs := #[.int .i64 ((rd_T46 l0_2 x28_2).f0), .bool false, .int .i64 0, .int .i64 0]) ?_ 1 _ rfl; (with_reducible repeat (first | apply bN | apply bD | apply bA)); refine bP (cs := #[.int .i64 0, .bool false, .int .i64 0, .int .i64 0]) ?_ 0 _ rfl; (with_reducible repeat (first | apply bN | apply bD | apply bA)); exact BK365.o⟩, ⟨zB HB⟩⟩
         ·replace c22 := Bool.eq_false_iff.mpr c22
          subst c22
          have H1 : (impl_IsMachine.j2 k2 x28_2 l0_2 (l0_2.length : Int) x28_2 true a0_0 l0_1 l0_2 ((rd_T46 l0_2 x28_2).f0) ((rd_T46 l0_2 x28_2).f1) ((rd_T46 l0_2 x28_2).f2) ((rd_T46 l0_2 x28_2).f3)) = some r := by rw [if_neg (show ¬ (false = true) by decide)] at H; exact H
          clear H
          have H := H1
          clear H1
          have H' := aM H
          clear H
          have hnb27 := NB365_362.o
          have hnc27 := NB362_365.o
          obtain ⟨z28_0, z28_1, z28_2, z28_3, f28_0, f28_1, f28_2, f28_3⟩ := bq4 BK365
          obtain ⟨z29_0, z29_1, z29_2, f29_0, f29_1, f29_2⟩ := bq3 BK362
          go_wp2_with (first | ((with_reducible refine gC (f := 22) rfl ?_); refine goesL_ (some 38) rfl rfl Try.func22 (by kernel_rfl) rfl #[.int .i64 ((rd_T46 l0_2 x28_2).f0), .int .i64 0, .int .i64 (wrap64 (a0_0 - 1))] rfl zG ?_; (with_reducible refine (impl_InRange.calls ((rd_T46 l0_2 x28_2).f0) 0 (wrap64 (a0_0 - 1)) true _ A19.o).mono ?_); rintro e w' ⟨rfl, ⟨nd, rfl⟩⟩; refine ⟨_, rfl, ?_⟩) | (go_at_call 22; (with_reducible refine (impl_InRange.calls ((rd_T46 l0_2 x28_2).f3) 0 (wrap64 (a0_0 - 1)) false _ A21.o).mono ?_); rintro e w' ⟨rfl, ⟨nd, rfl⟩⟩))
          go_meet
          case rel => exact ⟨_, (true), zF, H', ⟨by have := HJ1.o; have := HK2.o; first | omega | exact Nat.le_refl _⟩, ⟨kF BK362⟩, ⟨by (with_reducible repeat (first | apply bN | apply bD | apply bA)); refine bP (cs := #[.int .i64 ((rd_T46 l0_2 x28_2).f0), .bool ((rd_T46 l0_2 x28_2).f1), .int .i64 ((rd_T46 l0_2 x28_2).f2), .int .i64 0]) ?_ 3 _ rfl; (with_reducible repeat (first | apply bN | apply bD | apply bA)); refine bP (cs := #[.int .i64 ((rd_T46 l0_2 x28_2).f0), .bool ((rd_T46 l0_2 x28_2).f1), .int .i64 0, .int .i64 0]) ?_ 2 _ rfl; (with_reducible repeat (first | apply bN | apply bD | apply bA)); refine bP (cs := #[.int .i64 ((rd_T46 l0_2 x28_2).f0), .bool false, .int .i64 0, .int .i64 0]) ?_ 1 _ rfl; (with_reducible repeat (first | apply bN | apply bD | apply bA)); refine bP (cs := #[.int .i64 0, .bool false, .int .i64 0, .int .i64 0]) ?_ 0 _ rfl; (with_reducible repeat (first | apply bN | apply bD | apply bA)); exact BK365.o⟩, ⟨zB HB⟩⟩
        ·replace c20 := Bool.eq_false_iff.mpr c20
         subst c20
         have H1 : (impl_IsMachine.j2 k2 x28_2 l0_2 (l0_2.length : Int) x28_2 true a0_0 l0_1 l0_2 ((rd_T46 l0_2 x28_2).f0) ((rd_T46 l0_2 x28_2).f1) ((rd_T46 l0_2 x28_2).f2) ((rd_T46 l0_2 x28_2).f3)) = some r := by rw [if_neg (show ¬ (false = true) by decide)] at H; exact H
         clear H
         have H := H1
         clear H1
         have H' := aM H
         clear H
         have hnb30 := NB365_362.o
         have hnc30 := NB362_365.o
         obtain ⟨z31_0, z31_1, z31_2, z31_3, f31_0, f31_1, f31_2, f31_3⟩ := bq4 BK365
         obtain ⟨z32_0, z32_1, z32_2, f32_0, f32_1, f32_2⟩ := bq3 BK362
         go_wp2_with (first | ((with_reducible refine gC (f := 22) rfl ?_); refine goesL_ (some 38) rfl rfl Try.func22 (by kernel_rfl) rfl #[.int .i64 ((rd_T46 l0_2 x28_2).f0), .int .i64 0, .int .i64 (wrap64 (a0_0 - 1))] rfl zG ?_; (with_reducible refine (impl_InRange.calls ((rd_T46 l0_2 x28_2).f0) 0 (wrap64 (a0_0 - 1)) false _ A19.o).mono ?_); rintro e w' ⟨rfl, ⟨nd, rfl⟩⟩; refine ⟨_, rfl, ?_⟩))
         go_meet
         case rel => exact ⟨_, (true), zF, H', ⟨by have := HJ1.o; have := HK2.o; first | omega | exact Nat.le_refl _⟩, ⟨kF BK362⟩, ⟨by (with_reducible repeat (first | apply bN | apply bD | apply bA)); refine bP (cs := #[.int .i64 ((rd_T46 l0_2 x28_2).f0), .bool ((rd_T46 l0_2 x28_2).f1), .int .i64 ((rd_T46 l0_2 x28_2).f2), .int .i64 0]) ?_ 3 _ rfl; (with_reducible repeat (first | apply bN | apply bD | apply bA)); refine bP (cs := #[.int .i64 ((rd_T46 l0_2 x28_2).f0), .bool ((rd_T46 l0_2 x28_2).f1), .int .i64 0, .int .i64 0]) ?_ 2 _ rfl; (with_reducible repeat (first | apply bN | apply bD | apply bA)); refine bP (cs := #[.int .i64 ((rd_T46 l0_2 x28_2).f0), .bool false, .int .i64 0, .int .i64 0]) ?_ 1 _ rfl; (with_reducible repeat (first | apply bN | apply bD | apply bA)); refine bP (cs := #[.int .i64 0, .bool false, .int .i64 0, .int .i64 0]) ?_ 0 _ rfl; (with_reducible repeat (first | apply bN | apply bD | apply bA)); exact BK365.o⟩, ⟨zB HB⟩⟩
       case rest =>
        clear HC15
        try clear c1
        try clear c2
        try clear p2
        try clear c3
        try clear p3
        try clear q3
        try clear hx3
        try clear c5
        try clear c6
        try clear c6b0
        try clear c6b1
        try clear p6
        try clear c10
        try clear c12
        try clear c12b0
        try clear c13
        try clear c13b0
        try clear c14
        try clear c14b0
        try clear c17
        try clear c20
        try clear c22
        try clear c24
        try clear c27
        try clear c30
        try clear z11_0
        try clear z11_1
        try clear z11_2
        try clear z18_0
        try clear z18_1
        try clear z18_2
        try clear z18_3
        try clear z25_0
        try clear z25_1
        try clear z25_2
        try clear z25_3
        try clear z26_0
        try clear z26_1
        try clear z26_2
        try clear z28_0
        try clear z28_1
        try clear z28_2
        try clear z28_3
        try clear z29_0
        try clear z29_1
        try clear z29_2
        try clear z31_0
        try clear z31_1
        try clear z31_2
        try clear z31_3
        try clear z32_0
        try clear z32_1
        try clear z32_2
        try clear z7_0
        try clear z7_1
        try clear z7_2
        try clear z8_0
        try clear z8_1
        try clear z8_2
        try clear z9_0
        try clear z9_1
        try clear z9_2
        try clear f11_0
        try clear f11_1
        try clear f11_2
        try clear f18_0
        try clear f18_1
        try clear f18_2
        try clear f18_3
        try clear f25_0
        try clear f25_1
        try clear f25_2
        try clear f25_3
        try clear f26_0
        try clear f26_1
        try clear f26_2
        try clear f28_0
        try clear f28_1
        try clear f28_2
        try clear f28_3
        try clear f29_0
        try clear f29_1
        try clear f29_2
        try clear f31_0
        try clear f31_1
        try clear f31_2
        try clear f31_3
        try clear f32_0
        try clear f32_1
        try clear f32_2
        try clear f7_0
        try clear f7_1
        try clear f7_2
        try clear f8_0
        try clear f8_1
        try clear f8_2
        try clear f9_0
        try clear f9_1
        try clear f9_2
        try clear hx364_0
        try clear hx364_1
        try clear hx364_2
        try clear hx364_3
        try clear p2
        try clear p364
        try clear q364
        obtain ⟨kq, x54_14, rfl, HA, HJ14, BK362, BK365, HB⟩ := hcut
        cases kq with
        | zero => exact absurd HA.o (by simp [impl_IsMachine.j2])
        | succ kj14 =>
         have H := HA.o
         clear HA
         simp only [impl_IsMachine.j2] at H
         by_cases c33 : x54_14 = true
         ·subst c33
          have H1 : (some false) = some r := by rw [if_pos rfl] at H; exact H
          clear H
          have H := H1
          clear H1
          obtain rfl := oI H
          go_wp2
          go_ret
          exact ⟨zE, zB HB⟩
         ·replace c33 := Bool.eq_false_iff.mpr c33
          subst c33
          have H1 : (if 0 ≤ x28_2 then (if x28_2 ≤ (l0_2.length : Int) then ((some (l0_2.take (x28_2 : Int).toNat : List (S46))).bind fun y369 => (impl_IsMachine.l1 kj14 l0_2 (l0_2.length : Int) x28_2 y369 (y369.length : Int) 0 a0_0 l0_1 l0_2 ((rd_T46 l0_2 x28_2).f0) ((rd_T46 l0_2 x28_2).f1) ((rd_T46 l0_2 x28_2).f2) ((rd_T46 l0_2 x28_2).f3))) else (none)) else (none)) = some r := by rw [if_neg (show ¬ (false = true) by decide)] at H; exact H
          clear H
          have H := H1
          clear H1
          obtain ⟨c34, H⟩ := ifS H
          have c34b0 := eq_true c34
          have c34b1 : decide (0 ≤ x28_2) = true := dT c34
          clear c34
          obtain ⟨c35, H⟩ := ifS H
          have c35b0 := eq_true c35
          have c35b1 : decide (x28_2 ≤ (l0_2.length : Int)) = true := dT c35
          clear c35
          obtain ⟨y369, hy369⟩ : ∃ y_ : List (S46), y_ = (l0_2.take (x28_2 : Int).toNat) := ⟨_, rfl⟩
          replace H : (impl_IsMachine.l1 kj14 l0_2 (l0_2.length : Int) x28_2 y369 (y369.length : Int) 0 a0_0 l0_1 l0_2 ((rd_T46 l0_2 x28_2).f0) ((rd_T46 l0_2 x28_2).f1) ((rd_T46 l0_2 x28_2).f2) ((rd_T46 l0_2 x28_2).f3)) = some r := by first | (rw [hy369]; with_reducible exact H) | (rw [hy369]; exact H) | exact H
          have Ny369 := aM hy369
          clear hy369
          have H' := aM H
          clear H
          have hnb36 := NB362_365.o
          have hnc36 := NB365_362.o
          obtain ⟨z37_0, z37_1, z37_2, f37_0, f37_1, f37_2⟩ := bq3 BK362
          have q38 : (x28_2 : Int) ≤ ((l0_2.length : Int) : Int) := zD
          obtain ⟨i038, hi038, _, hsz38, _⟩ := info_parts info46
          have hroom38 : l0_2.length ≤ c0_2 := HC0_2.o
          have hC38 : Kd.C k46 _ (some ad364) l0_2.length l0_2 := HR0_2.o
          have hcut38 := cut_to (P := Try.prog) 25 46 .i64 Try.underlying25 hi038 (some ad364) l0_2.length c0_2 x28_2 (zD) q38 hroom38
          have hr38 := Kd.C_take (m := (x28_2 : Int).toNat) hC38 (by omega)
          have hy38 : y369.length = (x28_2 : Int).toNat := (by rw [Ny369.o, List.length_take]; omega)
          rw [← Ny369.o] at hr38
          rw [← hy38] at hcut38
          have HR372 := aM hr38
          have HC372 := aM (show y369.length ≤ c0_2 from by omega)
          clear hr38 hC38 hroom38 hi038 hsz38
          have KY38 := aM hy38
          clear hy38
          replace q38 := eq_true q38
          go_wp2
          go_loopg [60] kj14 (fun kq v60 w' => ∃ (x60_4 : Int), v60 = .int .i64 x60_4 ∧ Aside0 (impl_IsMachine.l1 kq l0_2 (l0_2.length : Int) x28_2 y369 (y369.length : Int) x60_4 a0_0 l0_1 l0_2 ((rd_T46 l0_2 x28_2).f0) ((rd_T46 l0_2 x28_2).f1) ((rd_T46 l0_2 x28_2).f2) ((rd_T46 l0_2 x28_2).f3) = some r) ∧ Aside0 (kq ≤ kj14) ∧ Aside0 (w'.heap[gb362]? = some (.cells #[.int .i64 a0_0, (.slice A0_1 l0_1.length c0_1), (.slice (some ad364) l0_2.length c0_2)] 27 (0, 0))) ∧ Aside0 (w'.heap[gb365]? = some (.cells #[.int .i64 ((rd_T46 l0_2 x28_2).f0), .bool ((rd_T46 l0_2 x28_2).f1), .int .i64 ((rd_T46 l0_2 x28_2).f2), .int .i64 ((rd_T46 l0_2 x28_2).f3)] 46 (0, 0))) ∧ Aside0 (Below w.heap.size w w'))
          case atStart => exact ⟨(0), zF, H', ⟨Nat.le_refl _⟩, ⟨zK BK362⟩, ⟨zK BK365⟩, ⟨zB HB⟩⟩
          case round =>
           clear H'
           try clear c1
           try clear c2
           try clear p2
           try clear c3
           try clear p3
           try clear q3
           try clear hx3
           try clear c5
           try clear c6
           try clear c6b0
           try clear c6b1
           try clear p6
           try clear c10
           try clear c12
           try clear c12b0
           try clear c13
           try clear c13b0
           try clear c14
           try clear c14b0
           try clear c17
           try clear c20
           try clear c22
           try clear c24
           try clear c27
           try clear c30
           try clear c33
           try clear c34
           try clear c34b0
           try clear c34b1
           try clear c35
           try clear c35b0
           try clear c35b1
           try clear c36
           try clear p36
           try clear q36
           try clear hx36
           try clear q38
           try clear z11_0
           try clear z11_1
           try clear z11_2
           try clear z18_0
           try clear z18_1
           try clear z18_2
           try clear z18_3
           try clear z25_0
           try clear z25_1
           try clear z25_2
           try clear z25_3
           try clear z26_0
           try clear z26_1
           try clear z26_2
           try clear z28_0
           try clear z28_1
           try clear z28_2
           try clear z28_3
           try clear z29_0
           try clear z29_1
           try clear z29_2
           try clear z31_0
           try clear z31_1
           try clear z31_2
           try clear z31_3
           try clear z32_0
           try clear z32_1
           try clear z32_2
           try clear z37_0
           try clear z37_1
           try clear z37_2
           try clear z7_0
           try clear z7_1
           try clear z7_2
           try clear z8_0
           try clear z8_1
           try clear z8_2
           try clear z9_0
           try clear z9_1
           try clear z9_2
           try clear f11_0
           try clear f11_1
           try clear f11_2
           try clear f18_0
           try clear f18_1
           try clear f18_2
           try clear f18_3
           try clear f25_0
           try clear f25_1
           try clear f25_2
           try clear f25_3
           try clear f26_0
           try clear f26_1
           try clear f26_2
           try clear f28_0
           try clear f28_1
           try clear f28_2
           try clear f28_3
           try clear f29_0
           try clear f29_1
           try clear f29_2
           try clear f31_0
           try clear f31_1
           try clear f31_2
           try clear f31_3
           try clear f32_0
           try clear f32_1
           try clear f32_2
           try clear f37_0
           try clear f37_1
           try clear f37_2
           try clear f7_0
           try clear f7_1
           try clear f7_2
           try clear f8_0
           try clear f8_1
           try clear f8_2
           try clear f9_0
           try clear f9_1
           try clear f9_2
           try clear hx364_0
           try clear hx364_1
           try clear hx364_2
           try clear hx364_3
           try clear p2
           try clear p3
           try clear p364
           try clear p6
           try clear q3
           try clear q364
           try clear q38
           obtain ⟨x60_4, rfl, HA, HK4, BK362, BK365, HB⟩ := hrel
           cases gk with
           | zero => exact absurd HA.o (by simp [impl_IsMachine.l1])
           | succ k4 =>
            have H := HA.o
            clear HA
            simp only [impl_IsMachine.l1] at H
            by_cases c39 : x60_4 < (y369.length : Int)
            ·rw [if_pos c39] at H
             have c39b0 : decide (x60_4 < (y369.length : Int)) = true := dT c39
             clear c39
             obtain ⟨c40, H⟩ := ifS H
             have c40b0 : decide (0 ≤ x60_4) = true := dT c40
             clear c40
             obtain ⟨c41, H⟩ := ifS H
             have c41b0 : decide (x60_4 < (y369.length : Int)) = true := dT c41
             clear c41
             by_cases c42 : ((rd_T46 y369 x60_4).f0) = ((rd_T46 l0_2 x28_2).f0)
             ·rw [if_pos c42] at H
              have c42b0 : (((rd_T46 y369 x60_4).f0) == ((rd_T46 l0_2 x28_2).f0)) = true := beq_iff_eq.mpr c42
              have c42b1 : (((rd_T46 y369 x60_4).f0) != ((rd_T46 l0_2 x28_2).f0)) = false := bne_eq_false_iff_eq.mpr c42
              clear c42
              by_cases c43 : (((rd_T46 y369 x60_4).f1) != ((rd_T46 l0_2 x28_2).f1)) = true
              ·rw [if_pos c43] at H
               have c43b0 : (((rd_T46 y369 x60_4).f1) != ((rd_T46 l0_2 x28_2).f1)) = true := c43
               (try (have c43b1 : decide (((rd_T46 y369 x60_4).f1) = ((rd_T46 l0_2 x28_2).f1)) = false := by simpa using c43))
               (try (have c43b2 : (((rd_T46 y369 x60_4).f1) == ((rd_T46 l0_2 x28_2).f1)) = false := by simpa using c43))
               (try (have c43b3 : ¬ (((rd_T46 y369 x60_4).f1) = ((rd_T46 l0_2 x28_2).f1)) := by simpa using c43))
               clear c43
               obtain rfl := oI H
               have p373 : 0 ≤ (x60_4 : Int) := zD
               have q373 : x60_4 < (y369.length : Int) := zD
               obtain ⟨ad373, e373, hx373_0, hx373_1, hx373_2, hx373_3⟩ := at_T46 HR372.o x60_4 p373 q373
               obtain rfl : ad364 = ad373 := (by injection e373)
               replace hx373_0 := hL HB hx373_0
               replace hx373_1 := hL HB hx373_1
               replace hx373_2 := hL HB hx373_2
               replace hx373_3 := hL HB hx373_3
               replace p373 := eq_true p373
               replace q373 := eq_true q373
               go_wp2_with (first | ((with_reducible refine gD (N := 6) rfl ?_); (try (refine gate_guard (by rfl) ?_; dsimp only)); refine box_event ?hg (N := 6) ?hd (cs := #[.int .i64 0, .bool false, .int .i64 0, .int .i64 0]) (t := 46) ?hr ?_; (case hd => rfl); (case hg => rfl); (case hr => first | (go_simp; done) | (go_simp; rfl)); intro gb374 hg w44 hbox hb; have BK374 := aM (hbox); have GW374 := gS HB hg; have GE374 := gS HB hg; replace HB := bS HB hb; have NB362_374 := nL BK362 hg; have NB374_362 := nR BK362 hg; replace BK362 := kB BK362 hb; have NB365_374 := nL BK365 hg; have NB374_365 := nR BK365 hg; replace BK365 := kB BK365 hb; clear hb hbox hg; have hnb45 := NB374_362.o; have hnc45 := NB362_374.o; have hnb46 := NB374_365.o; have hnc46 := NB365_374.o; obtain ⟨z47_0, z47_1, z47_2, z47_3, f47_0, f47_1, f47_2, f47_3⟩ := bq4 BK374; have hnb48 := NB365_362.o; have hnc48 := NB362_365.o; obtain ⟨z49_0, z49_1, z49_2, z49_3, f49_0, f49_1, f49_2, f49_3⟩ := bq4 BK365))
               go_ret
               exact ⟨zE, zB HB⟩
              ·rw [if_neg c43] at H
               have c43b0 : (((rd_T46 y369 x60_4).f1) != ((rd_T46 l0_2 x28_2).f1)) = false := by simpa using c43
               (try (have c43b1 : decide (((rd_T46 y369 x60_4).f1) = ((rd_T46 l0_2 x28_2).f1)) = true := by simpa using c43))
               (try (have c43b2 : (((rd_T46 y369 x60_4).f1) == ((rd_T46 l0_2 x28_2).f1)) = true := by simpa using c43))
               clear c43
               by_cases c50 : ((rd_T46 y369 x60_4).f2) = ((rd_T46 l0_2 x28_2).f2)
               ·rw [if_pos c50] at H
                have c50b0 : (((rd_T46 y369 x60_4).f2) == ((rd_T46 l0_2 x28_2).f2)) = true := beq_iff_eq.mpr c50
                have c50b1 : (((rd_T46 y369 x60_4).f2) != ((rd_T46 l0_2 x28_2).f2)) = false := bne_eq_false_iff_eq.mpr c50
                clear c50
                obtain rfl := oI H
                have p373 : 0 ≤ (x60_4 : Int) := zD
                have q373 : x60_4 < (y369.length : Int) := zD
                obtain ⟨ad373, e373, hx373_0, hx373_1, hx373_2, hx373_3⟩ := at_T46 HR372.o x60_4 p373 q373
                obtain rfl : ad364 = ad373 := (by injection e373)
                replace hx373_0 := hL HB hx373_0
                replace hx373_1 := hL HB hx373_1
                replace hx373_2 := hL HB hx373_2
                replace hx373_3 := hL HB hx373_3
                replace p373 := eq_true p373
                replace q373 := eq_true q373
                go_wp2_with (first | ((with_reducible refine gD (N := 6) rfl ?_); (try (refine gate_guard (by rfl) ?_; dsimp only)); refine box_event ?hg (N := 6) ?hd (cs := #[.int .i64 0, .bool false, .int .i64 0, .int .i64 0]) (t := 46) ?hr ?_; (case hd => rfl); (case hg => rfl); (case hr => first | (go_simp; done) | (go_simp; rfl)); intro gb374 hg w51 hbox hb; have BK374 := aM (hbox); have GW374 := gS HB hg; have GE374 := gS HB hg; replace HB := bS HB hb; have NB362_374 := nL BK362 hg; have NB374_362 := nR BK362 hg; replace BK362 := kB BK362 hb; have NB365_374 := nL BK365 hg; have NB374_365 := nR BK365 hg; replace BK365 := kB BK365 hb; clear hb hbox hg; have hnb52 := NB374_362.o; have hnc52 := NB362_374.o; have hnb53 := NB374_365.o; have hnc53 := NB365_374.o; obtain ⟨z54_0, z54_1, z54_2, z54_3, f54_0, f54_1, f54_2, f54_3⟩ := bq4 BK374; have hnb55 := NB365_362.o; have hnc55 := NB362_365.o; obtain ⟨z56_0, z56_1, z56_2, z56_3, f56_0, f56_1, f56_2, f56_3⟩ := bq4 BK365))
                go_ret
                exact ⟨zE, zB HB⟩
               ·rw [if_neg c50] at H
                have c50b0 : (((rd_T46 y369 x60_4).f2) == ((rd_T46 l0_2 x28_2).f2)) = false := beq_eq_false_iff_ne.mpr c50
                have c50b1 : (((rd_T46 y369 x60_4).f2) != ((rd_T46 l0_2 x28_2).f2)) = true := bne_iff_ne.mpr c50
                have H' := aM H
                clear H
                have p373 : 0 ≤ (x60_4 : Int) := zD
                have q373 : x60_4 < (y369.length : Int) := zD
                obtain ⟨ad373, e373, hx373_0, hx373_1, hx373_2, hx373_3⟩ := at_T46 HR372.o x60_4 p373 q373
                obtain rfl : ad364 = ad373 := (by injection e373)
                replace hx373_0 := hL HB hx373_0
                replace hx373_1 := hL HB hx373_1
                replace hx373_2 := hL HB hx373_2
                replace hx373_3 := hL HB hx373_3
                replace p373 := eq_true p373
                replace q373 := eq_true q373
                go_wp2_with (first | ((with_reducible refine gD (N := 6) rfl ?_); (try (refine gate_guard (by rfl) ?_; dsimp only)); refine box_event ?hg (N := 6) ?hd (cs := #[.int .i64 0, .bool false, .int .i64 0, .int .i64 0]) (t := 46) ?hr ?_; (case hd => rfl); (case hg => rfl); (case hr => first | (go_simp; done) | (go_simp; rfl)); intro gb374 hg w57 hbox hb; have BK374 := aM (hbox); have GW374 := gS HB hg; have GE374 := gS HB hg; replace HB := bS HB hb; have NB362_374 := nL BK362 hg; have NB374_362 := nR BK362 hg; replace BK362 := kB BK362 hb; have NB365_374 := nL BK365 hg; have NB374_365 := nR BK365 hg; replace BK365 := kB BK365 hb; clear hb hbox hg; have hnb58 := NB374_362.o; have hnc58 := NB362_374.o; have hnb59 := NB374_365.o; have hnc59 := NB365_374.o; obtain ⟨z60_0, z60_1, z60_2, z60_3, f60_0, f60_1, f60_2, f60_3⟩ := bq4 BK374; have hnb61 := NB365_362.o; have hnc61 := NB362_365.o; obtain ⟨z62_0, z62_1, z62_2, z62_3, f62_0, f62_1, f62_2, f62_3⟩ := bq4 BK365))
                go_roundg k4
                case measure => have := HJ1.o; have := HK2.o; have := HJ14.o; have := HK4.o; omega
                case rel => exact ⟨(wrap64 (x60_4 + 1)), zF, H', ⟨by have := HJ1.o; have := HK2.o; have := HJ14.o; have := HK4.o; omega⟩, ⟨kF BK362⟩, ⟨kF BK365⟩, ⟨zB HB⟩⟩
             ·rw [if_neg c42] at H
              have c42b0 : (((rd_T46 y369 x60_4).f0) == ((rd_T46 l0_2 x28_2).f0)) = false := beq_eq_false_iff_ne.mpr c42
              have c42b1 : (((rd_T46 y369 x60_4).f0) != ((rd_T46 l0_2 x28_2).f0)) = true := bne_iff_ne.mpr c42
              have H' := aM H
              clear H
              have p373 : 0 ≤ (x60_4 : Int) := zD
              have q373 : x60_4 < (y369.length : Int) := zD
              obtain ⟨ad373, e373, hx373_0, hx373_1, hx373_2, hx373_3⟩ := at_T46 HR372.o x60_4 p373 q373
              obtain rfl : ad364 = ad373 := (by injection e373)
              replace hx373_0 := hL HB hx373_0
              replace hx373_1 := hL HB hx373_1
              replace hx373_2 := hL HB hx373_2
              replace hx373_3 := hL HB hx373_3
              replace p373 := eq_true p373
              replace q373 := eq_true q373
              go_wp2_with (first | ((with_reducible refine gD (N := 6) rfl ?_); (try (refine gate_guard (by rfl) ?_; dsimp only)); refine box_event ?hg (N := 6) ?hd (cs := #[.int .i64 0, .bool false, .int .i64 0, .int .i64 0]) (t := 46) ?hr ?_; (case hd => rfl); (case hg => rfl); (case hr => first | (go_simp; done) | (go_simp; rfl)); intro gb374 hg w63 hbox hb; have BK374 := aM (hbox); have GW374 := gS HB hg; have GE374 := gS HB hg; replace HB := bS HB hb; have NB362_374 := nL BK362 hg; have NB374_362 := nR BK362 hg; replace BK362 := kB BK362 hb; have NB365_374 := nL BK365 hg; have NB374_365 := nR BK365 hg; replace BK365 := kB BK365 hb; clear hb hbox hg; have hnb64 := NB374_362.o; have hnc64 := NB362_374.o; have hnb65 := NB374_365.o; have hnc65 := NB365_374.o; obtain ⟨z66_0, z66_1, z66_2, z66_3, f66_0, f66_1, f66_2, f66_3⟩ := bq4 BK374; have hnb67 := NB365_362.o; have hnc67 := NB362_365.o; obtain ⟨z68_0, z68_1, z68_2, z68_3, f68_0, f68_1, f68_2, f68_3⟩ := bq4 BK365))
              go_roundg k4
              case measure => have := HJ1.o; have := HK2.o; have := HJ14.o; have := HK4.o; omega
              case rel => exact ⟨(wrap64 (x60_4 + 1)), zF, H', ⟨by have := HJ1.o; have := HK2.o; have := HJ14.o; have := HK4.o; omega⟩, ⟨kF BK362⟩, ⟨kF BK365⟩, ⟨zB HB⟩⟩
            ·rw [if_neg c39] at H
             have c39b0 : decide (x60_4 < (y369.length : Int)) = false := decide_eq_false c39
             clear c39
             have H' := aM H
             clear H
             go_wp2
             go_roundg k4
             case measure => have := HJ1.o; have := HK2.o; have := HJ14.o; have := HK4.o; omega
             case rel => exact ⟨(wrap64 (x28_2 + 1)), zF, H', ⟨by have := HJ1.o; have := HK2.o; have := HJ14.o; have := HK4.o; omega⟩, ⟨zK BK362⟩, ⟨zB HB⟩⟩
      ·rw [if_neg c12] at H
       have c12b0 : decide (x28_2 < (l0_2.length : Int)) = false := decide_eq_false c12
       clear c12
       obtain rfl := oI H
       go_wp2
       go_ret
       exact ⟨zE, zB HB⟩

/-! ### slices_Sort_int_int: function 44 (by hand) -/
def slices_Sort_int_int.f (l0 : List Int) : Option (List Int) := if l0.length < 4611686018427387904 then some (l0.mergeSort fun x y => decide (x ≤ y)) else none
theorem slices_Sort_int_int.calls (P0_ : Nat → Prop) (u9000_ : Value) (l0 : List Int) (r : List Int) (w0 w : World) (hB : Below w0.heap.size w0 w) (ho0 : Kd.R (Kd.int .i64) 3 w w0.heap.size P0_ u9000_ l0) (h : slices_Sort_int_int.f l0 = some r) :
  Calls Try.prog 44 #[u9000_] w fun e w' => e = .returned (.tuple #[]) ∧ Kd.R (Kd.int .i64) 3 w' w0.heap.size (fun k_ => (P0_ k_ ∨ w.heap.size ≤ k_)) u9000_ r ∧ Below w0.heap.size w0 w' ∧ Kept w w' (fun k_ => P0_ k_) := by
 unfold slices_Sort_int_int.f at h
 by_cases hl : l0.length < 4611686018427387904
 ·rw [if_pos hl] at h
  exact Go.Proofs.Ytfibjclnaeocbaa.Hs.sort_calls (fun blk off cap zs w hH hb hz => Any.slices_Sort_int Try.lays189 blk off cap zs w hH hb hz) (fun p cap w => Any.slices_Sort_int_none Try.lays189 p cap w) P0_ u9000_ l0 r w0 w hB ho0 hl (oI h).symm
 ·rw [if_neg hl] at h; cases h

/-! ### slices_Compact_int_int: function 45 (by hand) -/
def slices_Compact_int_int.f (l0 : List Int) : Option (List Int) := some (Go.Lib.compact l0)
theorem slices_Compact_int_int.calls (P0_ : Nat → Prop) (u9000_ : Value) (l0 : List Int) (r : List Int) (w0 w : World) (hB : Below w0.heap.size w0 w) (ho0 : Kd.R (Kd.int .i64) 3 w w0.heap.size P0_ u9000_ l0) (h : slices_Compact_int_int.f l0 = some r) :
  Calls Try.prog 45 #[u9000_] w fun e w' => ∃ v0_ : Value, e = .returned (v0_) ∧ Kd.R (Kd.int .i64) 3 w' w0.heap.size (fun k_ => (P0_ k_ ∨ w.heap.size ≤ k_)) v0_ r ∧ Below w0.heap.size w0 w' ∧ Kept w w' (fun k_ => P0_ k_) :=
 Go.Proofs.Ytfibjclnaeocbaa.Hs.compact_calls (fun blk off cap zs w hH hz hc => Any.slices_Compact_int Try.laysNm220 blk off cap zs w hH hz hc) (fun p cap w => Any.slices_Compact_int_empty Try.laysNm220 p cap w) P0_ u9000_ l0 r w0 w hB ho0 (oI h).symm

/-! ### impl_MovesFrom: function 27 -/
def impl_MovesFrom.l0 : Nat → Int → Bool → List Int → List (S46) → Int → Int → Option (List Int)
 | 0, _, _, _, _, _, _ => none
 | k + 1, x1, x2, x7, x12, x13, x14 => if x14 < x13 then (if 0 ≤ x14 then (if x14 < (x12.length : Int) then (if ((rd_T46 x12 x14).f0) = x1 then (if (((rd_T46 x12 x14).f1) == x2) = true then (if x7.length < 17592186044416 then (impl_MovesFrom.l0 k x1 x2 (x7 ++ [(rd_T46 x12 x14).f2]) x12 x13 (wrap64 (x14 + 1))) else (none)) else (impl_MovesFrom.l0 k x1 x2 x7 x12 x13 (wrap64 (x14 + 1)))) else (impl_MovesFrom.l0 k x1 x2 x7 x12 x13 (wrap64 (x14 + 1)))) else (none)) else (none)) else ((slices_Sort_int_int.f x7).bind fun t384 => ((slices_Compact_int_int.f t384).bind fun t385 => (some t385)))
def impl_MovesFrom.f (k : Nat) (a0_0 : Int) (l0_1 : List Bool) (l0_2 : List (S46)) (a1 : Int) (a2 : Bool) : Option (List Int) := impl_MovesFrom.l0 k a1 a2 (([] : List Int)) l0_2 (l0_2.length : Int) 0
theorem impl_MovesFrom.mono_l : ∀ k, (∀ y0 y1 y2 y3 y4 y5, LeO (impl_MovesFrom.l0 k y0 y1 y2 y3 y4 y5) (impl_MovesFrom.l0 (k + 1) y0 y1 y2 y3 y4 y5))
 | 0 => fun _ _ _ _ _ _ r h => by simp [impl_MovesFrom.l0] at h
 | k + 1 => by
  have ih0 := impl_MovesFrom.mono_l k
  ·intro y0 y1 y2 y3 y4 y5
   unfold impl_MovesFrom.l0
   repeat' first
   | (with_reducible first | exact ih0 _ _ _ _ _ _ | exact LeO.refl _ | exact LeO.none _ | refine LeO.ite ?_ ?_ | refine LeO.bind ?_ (fun _ => ?_))
   | exact ih0 _ _ _ _ _ _
   | exact LeO.none _
   | refine LeO.ite ?_ ?_
   | refine LeO.bind ?_ (fun _ => ?_)
theorem impl_MovesFrom.mono : ∀ a0 a1 a2 a3 a4 k, LeO (impl_MovesFrom.f k a0 a1 a2 a3 a4) (impl_MovesFrom.f (k + 1) a0 a1 a2 a3 a4) := by
 intro a0 a1 a2 a3 a4 k
 have ih0 := impl_MovesFrom.mono_l k
 unfold impl_MovesFrom.f
 repeat' first
   | (with_reducible first | exact ih0 _ _ _ _ _ _ | exact LeO.refl _ | exact LeO.none _ | refine LeO.ite ?_ ?_ | refine LeO.bind ?_ (fun _ => ?_))
   | exact ih0 _ _ _ _ _ _
   | exact LeO.none _
   | refine LeO.ite ?_ ?_
   | refine LeO.bind ?_ (fun _ => ?_)
set_option maxHeartbeats 8000000 in
set_option maxRecDepth 100000 in
theorem impl_MovesFrom.calls (k : Nat) (a0_0 : Int) (A0_1 : Option Addr) (c0_1 : Nat) (l0_1 : List Bool) (A0_2 : Option Addr) (c0_2 : Nat) (l0_2 : List (S46)) (a1 : Int) (a2 : Bool) (r : List Int) (w : World) (hr0_1 : Kd.C Kd.bool w A0_1 l0_1.length l0_1) (hc0_1 : l0_1.length ≤ c0_1) (hr0_2 : Kd.C k46 w A0_2 l0_2.length l0_2) (hc0_2 : l0_2.length ≤ c0_2) (h : impl_MovesFrom.f k a0_0 l0_1 l0_2 a1 a2 = some r) :
  Calls Try.prog 27 #[.agg #[.int .i64 a0_0, .slice A0_1 l0_1.length c0_1, .slice A0_2 l0_2.length c0_2], .int .i64 a1, .bool a2] w fun e w' => ∃ v0_ : Value, e = .returned (v0_) ∧ Kd.R (Kd.int .i64) 3 w' w.heap.size (fun _ => True) v0_ r ∧ Below w.heap.size w w' := by
 have hu27 := Try.underlying27
 have hu46 := Try.underlying46
 have HR0_1 := aM hr0_1
 have HC0_1 := aM hc0_1
 clear hr0_1 hc0_1
 have HR0_2 := aM hr0_2
 have HC0_2 := aM hc0_2
 clear hr0_2 hc0_2
 have HB := aM (Below.refl w.heap.size w)
 have H : (impl_MovesFrom.l0 k a1 a2 (([] : List Int)) l0_2 (l0_2.length : Int) 0) = some r := h
 clear h
 obtain ⟨y376, hy376⟩ : ∃ y_ : List Int, y_ = (([] : List Int)) := ⟨_, rfl⟩
 replace H : (impl_MovesFrom.l0 k a1 a2 y376 l0_2 (l0_2.length : Int) 0) = some r := by first | (rw [hy376]; with_reducible exact H) | (rw [hy376]; exact H) | exact H
 have Ny376 := aM hy376
 clear hy376
 have H' := aM H
 clear H
 go_enter Try.func27, Try.ntmps27
 go_wp2_with (first | ((with_reducible refine gD (N := 3) rfl ?_); refine box_event ?hg (N := 3) ?hd (cs := #[.int .i64 a0_0, .slice A0_1 l0_1.length c0_1, .slice A0_2 l0_2.length c0_2]) (t := 27) ?hr ?_; (case hd => rfl); (case hg => rfl); (case hr => first | (go_simp; done) | (go_simp; rfl)); intro gb375 hg w4 hbox hb; have BK375 := aM (hbox); have GW375 := gS HB hg; have GE375 := gS HB hg; replace HB := bS HB hb; clear hb hbox hg) | ((with_reducible refine gD (N := 10) rfl ?_); refine Kd.R_lit (Kd.int .i64) _ 3 ?hg (N := 10) ?hd (xs := ([] : List Int)) (inner := []) (ok := fun _ => True) (okp := fun _ => True) ?hr ?hp (fun _ hk => hk) trivial (Below.refl _ _) (Nat.le_refl _) (by simp) ?_; (case hd => rfl); (case hg => rfl); (case hr => first | (go_simp; done) | (go_simp; rfl)); (case hp => exact (Reps.none _ _)); intro v377 w5 ho6 hb hg_ hnew_; clear hg_ hnew_; (first | rw [← Ny376.o] at ho6 | (simp only [Int.reduceToNat] at ho6; rw [← Ny376.o] at ho6)); have HO378 := aM (rO ho6 (bZ (zB HB))); replace BK375 := kB BK375 hb; replace HB := bS HB hb; clear hb ho6; obtain ⟨z7_0, z7_1, z7_2, f7_0, f7_1, f7_2⟩ := bq3 BK375))
 go_loopg [7, 14] k (fun kq v7 v14 w' => ∃ (x7_1 : List Int) (x14_1 : Int), v14 = .int .i64 x14_1 ∧ Aside0 (impl_MovesFrom.l0 kq a1 a2 x7_1 l0_2 (l0_2.length : Int) x14_1 = some r) ∧ Aside0 (kq ≤ k) ∧ Aside0 (Kd.R (Kd.int .i64) 3 w' w.heap.size (fun _ => True) v7 x7_1) ∧ Aside0 (w'.heap[gb375]? = some (.cells #[.int .i64 a0_0, (.slice A0_1 l0_1.length c0_1), (.slice A0_2 l0_2.length c0_2)] 27 (0, 0))) ∧ Aside0 (Below w.heap.size w w'))
 case atStart => exact ⟨(y376), (0), zF, H', ⟨Nat.le_refl _⟩, ⟨zR HO378⟩, ⟨zK BK375⟩, ⟨zB HB⟩⟩
 case round =>
  clear H'
  try clear c2
  try clear p2
  try clear z7_0
  try clear z7_1
  try clear z7_2
  try clear f7_0
  try clear f7_1
  try clear f7_2
  obtain ⟨x7_1, x14_1, rfl, HA, HK1, HO_7, BK375, HB⟩ := hrel
  cases gk with
  | zero => exact absurd HA.o (by simp [impl_MovesFrom.l0])
  | succ k1 =>
   have H := HA.o
   clear HA
   simp only [impl_MovesFrom.l0] at H
   by_cases c8 : x14_1 < (l0_2.length : Int)
   ·rw [if_pos c8] at H
    have c8b0 : decide (x14_1 < (l0_2.length : Int)) = true := dT c8
    clear c8
    obtain ⟨c9, H⟩ := ifS H
    have c9b0 : decide (0 ≤ x14_1) = true := dT c9
    clear c9
    obtain ⟨c10, H⟩ := ifS H
    have c10b0 : decide (x14_1 < (l0_2.length : Int)) = true := dT c10
    clear c10
    by_cases c11 : ((rd_T46 l0_2 x14_1).f0) = a1
    ·rw [if_pos c11] at H
     have c11b0 : (((rd_T46 l0_2 x14_1).f0) == a1) = true := beq_iff_eq.mpr c11
     have c11b1 : (((rd_T46 l0_2 x14_1).f0) != a1) = false := bne_eq_false_iff_eq.mpr c11
     clear c11
     by_cases c12 : (((rd_T46 l0_2 x14_1).f1) == a2) = true
     ·rw [if_pos c12] at H
      have c12b0 : (((rd_T46 l0_2 x14_1).f1) == a2) = true := c12
      (try (have c12b1 : decide (((rd_T46 l0_2 x14_1).f1) = a2) = true := by simpa using c12))
      (try (have c12b2 : (((rd_T46 l0_2 x14_1).f1) == a2) = true := by simpa using c12))
      clear c12
      obtain ⟨c13, H⟩ := ifS H
      have LMc13 := aM c13
      clear c13
      obtain ⟨y381, hy381⟩ : ∃ y_ : List Int, y_ = (x7_1 ++ [(rd_T46 l0_2 x14_1).f2]) := ⟨_, rfl⟩
      replace H : (impl_MovesFrom.l0 k1 a1 a2 y381 l0_2 (l0_2.length : Int) (wrap64 (x14_1 + 1))) = some r := by first | (rw [hy381]; with_reducible exact H) | (rw [hy381]; exact H) | exact H
      have Ny381 := aM hy381
      clear hy381
      have H' := aM H
      clear H
      have p379 : 0 ≤ (x14_1 : Int) := zD
      have q379 : x14_1 < (l0_2.length : Int) := zD
      obtain ⟨ad379, e379, hx379_0, hx379_1, hx379_2, hx379_3⟩ := at_T46 HR0_2.o x14_1 p379 q379
      cases e379
      replace hx379_0 := hL HB hx379_0
      replace hx379_1 := hL HB hx379_1
      replace hx379_2 := hL HB hx379_2
      replace hx379_3 := hL HB hx379_3
      replace p379 := eq_true p379
      replace q379 := eq_true q379
      go_wp2_with (first | ((with_reducible refine gD (N := 9) rfl ?_); refine box_event ?hg (N := 9) ?hd (cs := #[.int .i64 0, .bool false, .int .i64 0, .int .i64 0]) (t := 46) ?hr ?_; (case hd => rfl); (case hg => rfl); (case hr => first | (go_simp; done) | (go_simp; rfl)); intro gb380 hg w14 hbox hb; replace HO_7 := aM (rW (zR HO_7) hb); have BK380 := aM (hbox); have GW380 := gS HB hg; have GE380 := gS HB hg; replace HB := bS HB hb; have NB375_380 := nL BK375 hg; have NB380_375 := nR BK375 hg; replace BK375 := kB BK375 hb; clear hb hbox hg; have hnb15 := NB380_375.o; have hnc15 := NB375_380.o; obtain ⟨z16_0, z16_1, z16_2, z16_3, f16_0, f16_1, f16_2, f16_3⟩ := bq4 BK380) | ((with_reducible refine gate_builtin (b := .append) (xs := #[.tmp 28, .tmp 31]) rfl ?_); at_builtin; refine Kd.R_append (Kd.int .i64) (w0 := w) w.heap.size rfl (.tmp 28) (.tmp 31) 31 3 (.int .i64 0) 8 rfl Try.underlying31 info3 rfl (by decide) (by omega) u7 x7_1 ((rd_T46 l0_2 x14_1).f2) [.int .i64 ((rd_T46 l0_2 x14_1).f2)] (fun _ => True) (fun _ => False) rfl (by first | (go_simp; done) | (go_simp; rfl)) ?aP (fun _ hk => hk.elim) ?aF ?aO ?aB ?aS ?aL ?_; (case aP => exact rfl); (case aB => exact (zB HB)); (case aF => exact (fun _ _ => trivial)); (case aO => exact (rM (rB HO_7 BK380) (fun _ hk => trivial))); (case aS => exact (bZ (zB HB))); (case aL => have := LMc13.o; omega); intro v382 w17 ho hb hg hat; rw [← Ny381.o] at ho; replace BK375 := aM (blk_grown (g := gb375) (o := .cells #[.int .i64 a0_0, .slice A0_1 l0_1.length c0_1, .slice (some ad379) l0_2.length c0_2] 27 (0, 0)) (kF BK375) hg (Kd.R_ne HO_7.o BK375.o (by decide))); replace BK380 := aM (blk_grown (g := gb380) (o := .cells #[.int .i64 ((rd_T46 l0_2 x14_1).f0), .bool ((rd_T46 l0_2 x14_1).f1), .int .i64 ((rd_T46 l0_2 x14_1).f2), .int .i64 ((rd_T46 l0_2 x14_1).f3)] 46 (0, 0)) (by (with_reducible repeat (first | apply bN | apply bD | apply bA)); refine bP (cs := #[.int .i64 ((rd_T46 l0_2 x14_1).f0), .bool ((rd_T46 l0_2 x14_1).f1), .int .i64 ((rd_T46 l0_2 x14_1).f2), .int .i64 0]) ?_ 3 _ rfl; (with_reducible repeat (first | apply bN | apply bD | apply bA)); refine bP (cs := #[.int .i64 ((rd_T46 l0_2 x14_1).f0), .bool ((rd_T46 l0_2 x14_1).f1), .int .i64 0, .int .i64 0]) ?_ 2 _ rfl; (with_reducible repeat (first | apply bN | apply bD | apply bA)); refine bP (cs := #[.int .i64 ((rd_T46 l0_2 x14_1).f0), .bool false, .int .i64 0, .int .i64 0]) ?_ 1 _ rfl; (with_reducible repeat (first | apply bN | apply bD | apply bA)); refine bP (cs := #[.int .i64 0, .bool false, .int .i64 0, .int .i64 0]) ?_ 0 _ rfl; (with_reducible repeat (first | apply bN | apply bD | apply bA)); exact BK380.o) hg (Kd.R_ne HO_7.o BK380.o (by decide))); replace HB := aM (hb); have HO383 := aM (ho); clear HO_7; clear ho hb hg hat))
      go_roundg k1
      case measure => have := HK1.o; omega
      case rel => exact ⟨(y381), (wrap64 (x14_1 + 1)), zF, H', ⟨by have := HK1.o; omega⟩, ⟨zR HO383⟩, ⟨zK BK375⟩, ⟨zB HB⟩⟩
     ·rw [if_neg c12] at H
      have c12b0 : (((rd_T46 l0_2 x14_1).f1) == a2) = false := by simpa using c12
      (try (have c12b1 : decide (((rd_T46 l0_2 x14_1).f1) = a2) = false := by simpa using c12))
      (try (have c12b2 : (((rd_T46 l0_2 x14_1).f1) == a2) = false := by simpa using c12))
      (try (have c12b3 : ¬ (((rd_T46 l0_2 x14_1).f1) = a2) := by simpa using c12))
      clear c12
      have H' := aM H
      clear H
      have p379 : 0 ≤ (x14_1 : Int) := zD
      have q379 : x14_1 < (l0_2.length : Int) := zD
      obtain ⟨ad379, e379, hx379_0, hx379_1, hx379_2, hx379_3⟩ := at_T46 HR0_2.o x14_1 p379 q379
      cases e379
      replace hx379_0 := hL HB hx379_0
      replace hx379_1 := hL HB hx379_1
      replace hx379_2 := hL HB hx379_2
      replace hx379_3 := hL HB hx379_3
      replace p379 := eq_true p379
      replace q379 := eq_true q379
      go_wp2_with (first | ((with_reducible refine gD (N := 9) rfl ?_); refine box_event ?hg (N := 9) ?hd (cs := #[.int .i64 0, .bool false, .int .i64 0, .int .i64 0]) (t := 46) ?hr ?_; (case hd => rfl); (case hg => rfl); (case hr => first | (go_simp; done) | (go_simp; rfl)); intro gb380 hg w18 hbox hb; replace HO_7 := aM (rW (zR HO_7) hb); have BK380 := aM (hbox); have GW380 := gS HB hg; have GE380 := gS HB hg; replace HB := bS HB hb; have NB375_380 := nL BK375 hg; have NB380_375 := nR BK375 hg; replace BK375 := kB BK375 hb; clear hb hbox hg; have hnb19 := NB380_375.o; have hnc19 := NB375_380.o; obtain ⟨z20_0, z20_1, z20_2, z20_3, f20_0, f20_1, f20_2, f20_3⟩ := bq4 BK380))
      go_roundg k1
      case measure => have := HK1.o; omega
      case rel => exact ⟨(x7_1), (wrap64 (x14_1 + 1)), zF, H', ⟨by have := HK1.o; omega⟩, ⟨rM (rB HO_7 BK380) (fun _ hk => trivial)⟩, ⟨kF BK375⟩, ⟨zB HB⟩⟩
    ·rw [if_neg c11] at H
     have c11b0 : (((rd_T46 l0_2 x14_1).f0) == a1) = false := beq_eq_false_iff_ne.mpr c11
     have c11b1 : (((rd_T46 l0_2 x14_1).f0) != a1) = true := bne_iff_ne.mpr c11
     have H' := aM H
     clear H
     have p379 : 0 ≤ (x14_1 : Int) := zD
     have q379 : x14_1 < (l0_2.length : Int) := zD
     obtain ⟨ad379, e379, hx379_0, hx379_1, hx379_2, hx379_3⟩ := at_T46 HR0_2.o x14_1 p379 q379
     cases e379
     replace hx379_0 := hL HB hx379_0
     replace hx379_1 := hL HB hx379_1
     replace hx379_2 := hL HB hx379_2
     replace hx379_3 := hL HB hx379_3
     replace p379 := eq_true p379
     replace q379 := eq_true q379
     go_wp2_with (first | ((with_reducible refine gD (N := 9) rfl ?_); refine box_event ?hg (N := 9) ?hd (cs := #[.int .i64 0, .bool false, .int .i64 0, .int .i64 0]) (t := 46) ?hr ?_; (case hd => rfl); (case hg => rfl); (case hr => first | (go_simp; done) | (go_simp; rfl)); intro gb380 hg w21 hbox hb; replace HO_7 := aM (rW (zR HO_7) hb); have BK380 := aM (hbox); have GW380 := gS HB hg; have GE380 := gS HB hg; replace HB := bS HB hb; have NB375_380 := nL BK375 hg; have NB380_375 := nR BK375 hg; replace BK375 := kB BK375 hb; clear hb hbox hg; have hnb22 := NB380_375.o; have hnc22 := NB375_380.o; obtain ⟨z23_0, z23_1, z23_2, z23_3, f23_0, f23_1, f23_2, f23_3⟩ := bq4 BK380))
     go_roundg k1
     case measure => have := HK1.o; omega
     case rel => exact ⟨(x7_1), (wrap64 (x14_1 + 1)), zF, H', ⟨by have := HK1.o; omega⟩, ⟨rM (rB HO_7 BK380) (fun _ hk => trivial)⟩, ⟨kF BK375⟩, ⟨zB HB⟩⟩
   ·rw [if_neg c8] at H
    have c8b0 : decide (x14_1 < (l0_2.length : Int)) = false := decide_eq_false c8
    clear c8
    obtain ⟨t384, A24, H⟩ := bindS H
    obtain ⟨t385, A25, H⟩ := bindS H
    obtain rfl := oI H
    obtain ⟨Ao26, co26, eo26⟩ := rL HO_7.o
    subst eo26
    go_wp2_with (first | ((with_reducible refine gC (f := 44) rfl ?_); refine goesL_ (some 35) rfl rfl Try.func44 (by kernel_rfl) rfl #[.slice Ao26 x7_1.length co26] rfl zG ?_; (with_reducible refine (slices_Sort_int_int.calls (fun k_ => some k_ = (.slice Ao26 x7_1.length co26 : Value).ownBlock) (.slice Ao26 x7_1.length co26) x7_1 t384 w _ ?s1 ?s2 A24.o).mono ?_); (case s1 => exact zB HB); (case s2 => exact Kd.R_tight rfl HO_7.o); rintro e w27 ⟨rfl, hy0, hb, hkp⟩; refine ⟨_, rfl, ?_⟩; replace BK375 := aM (blk_kept (zK BK375) hkp (fun hs_ => (fun e_ => (Kd.R_ne HO_7.o BK375.o (by decide)) e_) hs_)); replace HO_7 := aM (Kd.R_reok rfl hy0 (fun k_ e_ => HO_7.o.1 k_ e_)); replace HB := aM (hb); (try clear hb); (try clear hkp); (try clear hy0)) | ((with_reducible refine gC (f := 45) rfl ?_); refine goesL_ (some 37) rfl rfl Try.func45 (by kernel_rfl) rfl #[.slice Ao26 x7_1.length co26] rfl zG ?_; (with_reducible refine (slices_Compact_int_int.calls (fun k_ => some k_ = (.slice Ao26 x7_1.length co26 : Value).ownBlock) (.slice Ao26 x7_1.length co26) t384 t385 w _ ?s1 ?s2 A25.o).mono ?_); (case s1 => exact zB HB); (case s2 => exact Kd.R_tight rfl HO_7.o); rintro e w28 ⟨v386, rfl, ho0, hb, hkp⟩; refine ⟨_, rfl, ?_⟩; replace BK375 := aM (blk_kept (zK BK375) hkp (fun hs_ => (fun e_ => (Kd.R_ne HO_7.o BK375.o (by decide)) e_) hs_)); have HO387 := aM (rM (ok' := fun k_ => True) ho0 (fun k_ hk_ => trivial)); replace HB := aM (hb); clear HO_7; (try clear hb); (try clear hkp); (try clear ho0)))
    go_ret
    exact ⟨_, zE, by (with_reducible repeat (first | apply rA | apply rN | apply rD)); exact HO387.o, zB HB⟩

-- NOT PRINTED: function 46 (impl_Move)

end Go.Proofs.Ytfibjclnaeocbaa.PFnPairs
