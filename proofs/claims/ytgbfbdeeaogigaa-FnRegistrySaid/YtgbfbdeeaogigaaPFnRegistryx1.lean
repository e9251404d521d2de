-- WRITTEN by pp.py, this session's own wrapper around the print; not trusted: Lean checks it
import Derived.Test.YtgbfbdeeaogigaaPFnRegistryx0
namespace Go.Proofs.Ytgbfbdeeaogigaa.PFnRegistry
open Go.RowKit Go.Proofs.Ytgbfbdeeaogigaa.Hw Go.Proofs.YtgbfbdeeaogigaaW.PrintWords Go.Proofs.YtgbfbdeeaogigaaW.PrintLast Go.Proofs.YtgbfbdeeaogigaaW.PrintMore
attribute [local go_sem] max2_int min2_int max_two min_two max_three min_three max_four min_four   -- for this text's walks alone
set_option linter.unusedVariables false
set_option linter.unusedSimpArgs false
set_option linter.unusedSectionVars false

/-! ### impl_InRange: function 28 -/
def impl_InRange.f (a0 : Int) (a1 : Int) (a2 : Int) : Option (Bool) := if a1 ≤ a0 then (some (decide (a0 ≤ a2))) else (some false)
set_option maxHeartbeats 8000000 in
set_option maxRecDepth 100000 in
theorem impl_InRange.calls (a0 : Int) (a1 : Int) (a2 : Int) (r : Bool) (w : World) (h : impl_InRange.f a0 a1 a2 = some r) :
  Calls Try.prog 28 #[.int .i64 a0, .int .i64 a1, .int .i64 a2] w fun e w' => e = .returned (.bool r) ∧ Drawn0 w w' := by
 have H : (if a1 ≤ a0 then (some (decide (a0 ≤ a2))) else (some false)) = some r := h
 clear h
 by_cases c4 : a1 ≤ a0
 ·rw [if_pos c4] at H
  have c4b0 : decide (a1 ≤ a0) = true := decide_eq_true c4
  clear c4
  obtain rfl := Option.some.inj H
  go_enter Try.func28, Try.ntmps28
  go_wp2
  go_ret
  exact ⟨by first | rfl | (simp; done) | (simp [*]; done), by repeat (first | exact Drawn0.refl _ | apply Drawn0.step)⟩
 ·rw [if_neg c4] at H
  have c4b0 : decide (a1 ≤ a0) = false := decide_eq_false c4
  clear c4
  obtain rfl := Option.some.inj H
  go_enter Try.func28, Try.ntmps28
  go_wp2
  go_ret
  exact ⟨by first | rfl | (simp; done) | (simp [*]; done), by repeat (first | exact Drawn0.refl _ | apply Drawn0.step)⟩

/-! ### impl_IsReserved: function 16 -/
def impl_IsReserved.f (a0 : Int) : Option (Bool) := (impl_InRange.f a0 0 255).bind fun t101 => (if t101 = true then (some ((Int.tmod a0 16) == 10)) else (some false))
set_option maxHeartbeats 8000000 in
set_option maxRecDepth 100000 in
theorem impl_IsReserved.calls (a0 : Int) (r : Bool) (w : World) (h : impl_IsReserved.f a0 = some r) :
  Calls Try.prog 16 #[.int .i64 a0] w fun e w' => e = .returned (.bool r) ∧ Drawn0 w w' := by
 have H : ((impl_InRange.f a0 0 255).bind fun t101 => (if t101 = true then (some ((Int.tmod a0 16) == 10)) else (some false))) = some r := h
 clear h
 obtain ⟨t101, A2, H⟩ := bindS H
 by_cases c3 : t101 = true
 ·subst c3
  have H1 : (some ((Int.tmod a0 16) == 10)) = some r := by rw [if_pos rfl] at H; exact H
  clear H
  have H := H1
  clear H1
  obtain rfl := Option.some.inj H
  go_enter Try.func16, Try.ntmps16
  go_wp2_with (first | ((with_reducible refine gate_callee (f := 28) rfl ?_); refine goesL_ (some 4) rfl rfl Try.func28 (by kernel_rfl) rfl #[.int .i64 a0, .int .i64 0, .int .i64 255] rfl zG ?_; (with_reducible refine (impl_InRange.calls a0 0 255 true _ A2.out).mono ?_); rintro e w' ⟨rfl, ⟨nd, rfl⟩⟩; refine ⟨_, rfl, ?_⟩))
  go_ret
  exact ⟨by first | rfl | (simp; done) | (simp [*]; done), by repeat (first | exact Drawn0.refl _ | apply Drawn0.step)⟩
 ·replace c3 := Bool.eq_false_iff.mpr c3
  subst c3
  have H1 : (some false) = some r := by rw [if_neg (show ¬ (false = true) by decide)] at H; exact H
  clear H
  have H := H1
  clear H1
  obtain rfl := Option.some.inj H
  go_enter Try.func16, Try.ntmps16
  go_wp2_with (first | ((with_reducible refine gate_callee (f := 28) rfl ?_); refine goesL_ (some 4) rfl rfl Try.func28 (by kernel_rfl) rfl #[.int .i64 a0, .int .i64 0, .int .i64 255] rfl zG ?_; (with_reducible refine (impl_InRange.calls a0 0 255 false _ A2.out).mono ?_); rintro e w' ⟨rfl, ⟨nd, rfl⟩⟩; refine ⟨_, rfl, ?_⟩))
  go_ret
  exact ⟨by first | rfl | (simp; done) | (simp [*]; done), by repeat (first | exact Drawn0.refl _ | apply Drawn0.step)⟩

/-! ### impl_IsRegistry: function 14 -/
def impl_IsRegistry.l0 : Nat → List (S43) → List (S43) → Int → Int → Option (Bool)
 | 0, _, _, _, _ => none
 | k + 1, x0, x5, x6, x7 => if x7 < x6 then (if 0 ≤ x7 then (if x7 < (x5.length : Int) then ((impl_InRange.f ((rd_T43 x5 x7).f0) 0 255).bind fun t104 => (if t104 = true then ((impl_IsReserved.f ((rd_T43 x5 x7).f0)).bind fun t105 => (if t105 = true then (some false) else (if x7 > 0 then (if 0 ≤ (wrap64 (x7 - 1)) then (if (wrap64 (x7 - 1)) < (x0.length : Int) then (if ((rd_T43 x0 (wrap64 (x7 - 1))).f0) ≥ ((rd_T43 x5 x7).f0) then (some false) else ((impl_InRange.f ((rd_T43 x5 x7).f1) 0 9).bind fun t107 => (if t107 = true then (impl_IsRegistry.l0 k x0 x5 x6 (wrap64 (x7 + 1))) else (some false)))) else (none)) else (none)) else ((impl_InRange.f ((rd_T43 x5 x7).f1) 0 9).bind fun t108 => (if t108 = true then (impl_IsRegistry.l0 k x0 x5 x6 (wrap64 (x7 + 1))) else (some false)))))) else (some false))) else (none)) else (none)) else (some (decide ((x0.length : Int) ≤ 12)))
def impl_IsRegistry.f (k : Nat) (l0 : List (S43)) : Option (Bool) := impl_IsRegistry.l0 k l0 l0 (l0.length : Int) 0
theorem impl_IsRegistry.mono_l : ∀ k, (∀ y0 y1 y2 y3, LeO (impl_IsRegistry.l0 k y0 y1 y2 y3) (impl_IsRegistry.l0 (k + 1) y0 y1 y2 y3))
 | 0 => fun _ _ _ _ r h => by simp [impl_IsRegistry.l0] at h
 | k + 1 => by
  have ih0 := impl_IsRegistry.mono_l k
  ·intro y0 y1 y2 y3
   unfold impl_IsRegistry.l0
   repeat' first
   | (with_reducible exact ih0 _ _ _ _)
   | (with_reducible exact LeO.refl _)
   | (with_reducible exact LeO.none _)
   | (with_reducible refine LeO.ite ?_ ?_)
   | (with_reducible refine LeO.bind ?_ (fun _ => ?_))
   | exact ih0 _ _ _ _
   | exact LeO.none _
   | refine LeO.ite ?_ ?_
   | refine LeO.bind ?_ (fun _ => ?_)
theorem impl_IsRegistry.mono : ∀ a0 k, LeO (impl_IsRegistry.f k a0) (impl_IsRegistry.f (k + 1) a0) := by
 intro a0 k
 have ih0 := impl_IsRegistry.mono_l k
 unfold impl_IsRegistry.f
 repeat' first
   | (with_reducible exact ih0 _ _ _ _)
   | (with_reducible exact LeO.refl _)
   | (with_reducible exact LeO.none _)
   | (with_reducible refine LeO.ite ?_ ?_)
   | (with_reducible refine LeO.bind ?_ (fun _ => ?_))
   | exact ih0 _ _ _ _
   | exact LeO.none _
   | refine LeO.ite ?_ ?_
   | refine LeO.bind ?_ (fun _ => ?_)
def impl_IsRegistry.T4 : Bool × List (List Nat × List Nat) := (true, [([], []), ([0], [0]), ([1], [1]), ([2], [2]), ([3, 2], [3]), ([4], [4]), ([5, 4], [4, 5]), ([6, 4, 4], [4, 6]), ([4, 7], [4, 7]), ([8, 7], [8]), ([9], [9]), ([10, 9], [9, 10]), ([11, 9, 9], [9, 11]), ([12], [12]), ([12], [12]), ([14, 12], [12, 14]), ([13, 15, 12], [12, 13, 15]), ([16, 12], [12, 16]), ([17, 12], [12, 17]), ([12], [12]), ([19, 12], [12, 19]), ([18, 20, 12], [12, 18, 20]), ([12, 21, 9], [9, 12, 21]), ([9, 22], [9, 22]), ([23, 12], [23]), ([24], [24]), ([25, 24], [24, 25]), ([26, 24, 24], [24, 26]), ([27, 24], [24, 27]), ([24, 28], [24, 28])])
def impl_IsRegistry.B4 : List Nat := [0, 1, 3, 7, 15, 31, 63, 127, 255, 511, 1023, 2047, 4095, 8191, 8191, 24575, 65535, 131071, 262143, 8191, 532479, 2097151, 4194303, 8388607, 16777215, 33554431, 67108863, 134217727, 268435455, 536870911]
theorem impl_IsRegistry.tab4 : rtab .any (opsOf Try.f14 4) = impl_IsRegistry.T4 := by kernel_rfl
theorem impl_IsRegistry.bits4 : waitsOk impl_IsRegistry.T4.2 impl_IsRegistry.B4 = true := by kernel_rfl
set_option maxHeartbeats 8000000 in
set_option maxRecDepth 100000 in
theorem impl_IsRegistry.calls (k : Nat) (A0 : Option Addr) (c0 : Nat) (l0 : List (S43)) (r : Bool) (w : World) (hr0 : Kd.C k43 w A0 l0.length l0) (hc0 : l0.length ≤ c0) (h : impl_IsRegistry.f k l0 = some r) :
  Calls Try.prog 14 #[.slice A0 l0.length c0] w fun e w' => e = .returned (.bool r) ∧ Below w.heap.size w w' := by
 have hu43 := Try.underlying43
 have HR0 := Aside0.mk hr0
 have HC0 := Aside0.mk hc0
 clear hr0 hc0
 have HB := Aside0.mk (Below.refl w.heap.size w)
 have H : (impl_IsRegistry.l0 k l0 l0 (l0.length : Int) 0) = some r := h
 clear h
 have H' := Aside0.mk H
 clear H
 go_enter Try.func14, Try.ntmps14
 go_wp2
 go_loopg [7] k (fun kq v7 w' => ∃ (x7_1 : Int), v7 = .int .i64 x7_1 ∧ Aside0 (impl_IsRegistry.l0 kq l0 l0 (l0.length : Int) x7_1 = some r) ∧ Aside0 (kq ≤ k) ∧ Aside0 (Below w.heap.size w w'))
 case atStart => exact ⟨(0), zF, H', ⟨Nat.le_refl _⟩, ⟨zB HB⟩⟩
 case round =>
  clear H'
  try clear c1
  obtain ⟨x7_1, rfl, HA, HK1, HB⟩ := hrel
  cases gk with
  | zero => exact absurd HA.out (by simp [impl_IsRegistry.l0])
  | succ k1 =>
   have H := HA.out
   clear HA
   simp only [impl_IsRegistry.l0] at H
   by_cases c2 : x7_1 < (l0.length : Int)
   ·rw [if_pos c2] at H
    have c2b0 : decide (x7_1 < (l0.length : Int)) = true := decide_eq_true c2
    clear c2
    obtain ⟨c3, H⟩ := ifS H
    have c3b0 : decide (0 ≤ x7_1) = true := decide_eq_true c3
    clear c3
    obtain ⟨c4, H⟩ := ifS H
    have c4b0 : decide (x7_1 < (l0.length : Int)) = true := decide_eq_true c4
    clear c4
    obtain ⟨t104, A5, H⟩ := bindS H
    by_cases c6 : t104 = true
    ·subst c6
     have H1 : ((impl_IsReserved.f ((rd_T43 l0 x7_1).f0)).bind fun t105 => (if t105 = true then (some false) else (if x7_1 > 0 then (if 0 ≤ (wrap64 (x7_1 - 1)) then (if (wrap64 (x7_1 - 1)) < (l0.length : Int) then (if ((rd_T43 l0 (wrap64 (x7_1 - 1))).f0) ≥ ((rd_T43 l0 x7_1).f0) then (some false) else ((impl_InRange.f ((rd_T43 l0 x7_1).f1) 0 9).bind fun t107 => (if t107 = true then (impl_IsRegistry.l0 k1 l0 l0 (l0.length : Int) (wrap64 (x7_1 + 1))) else (some false)))) else (none)) else (none)) else ((impl_InRange.f ((rd_T43 l0 x7_1).f1) 0 9).bind fun t108 => (if t108 = true then (impl_IsRegistry.l0 k1 l0 l0 (l0.length : Int) (wrap64 (x7_1 + 1))) else (some false)))))) = some r := by rw [if_pos rfl] at H; exact H
     clear H
     have H := H1
     clear H1
     obtain ⟨t105, A7, H⟩ := bindS H
     by_cases c8 : t105 = true
     ·subst c8
      have H1 : (some false) = some r := by rw [if_pos rfl] at H; exact H
      clear H
      have H := H1
      clear H1
      obtain rfl := Option.some.inj H
      have p102 : 0 ≤ (x7_1 : Int) := zD
      have q102 : x7_1 < (l0.length : Int) := zD
      obtain ⟨ad102, e102, hx102_0, hx102_1, hx102_2⟩ := at_T43 HR0.out x7_1 p102 q102
      cases e102
      replace hx102_0 := hL HB hx102_0
      replace hx102_1 := hL HB hx102_1
      replace hx102_2 := hL HB hx102_2
      replace p102 := eq_true p102
      replace q102 := eq_true q102
      try go_wp2_with (first | ((with_reducible refine gate_dst (N := 4) rfl ?_); refine box_event ?hg (N := 4) ?hd (cs := #[.int .i64 0, .int .i64 0, .bool false]) (t := 43) ?hr ?_; (case hd => rfl); (case hg => rfl); (case hr => first | (go_simp; done) | (go_simp; rfl)); intro gb103 hg w9 hbox hb; have BK103 := Aside0.mk (hbox); have GW103 := gS HB hg; have GE103 := gS HB hg; replace HB := bS HB hb; clear hb hbox hg; have hcz10_0 := bc0 BK103; have hcz10_1 := bc1 BK103; have hcz10_2 := bc2 BK103; have hfz10_0 := bf BK103 0; have hfz10_1 := bf BK103 1; have hfz10_2 := bf BK103 2))
      have n0_ : Aside0 ((((w9.setCell ⟨gb103, 0, none⟩ (.int .i64 ((rd_T43 l0 x7_1).f0))).setCell ⟨gb103, 1, none⟩ (.int .i64 ((rd_T43 l0 x7_1).f1))).setCell ⟨gb103, 2, none⟩ (.bool ((rd_T43 l0 x7_1).f2))).heap[gb103]? = some (.cells #[.int .i64 ((rd_T43 l0 x7_1).f0), .int .i64 ((rd_T43 l0 x7_1).f1), .bool ((rd_T43 l0 x7_1).f2)] 43 (0, 0))) := ⟨by (with_reducible repeat (first | refine blk_drewN ?_ _ | refine blk_drew ?_ | refine blk_alloc ?_ _)); refine blk_put (cs := #[.int .i64 ((rd_T43 l0 x7_1).f0), .int .i64 ((rd_T43 l0 x7_1).f1), .bool false]) ?_ 2 _ rfl; (with_reducible repeat (first | refine blk_drewN ?_ _ | refine blk_drew ?_ | refine blk_alloc ?_ _)); refine blk_put (cs := #[.int .i64 ((rd_T43 l0 x7_1).f0), .int .i64 0, .bool false]) ?_ 1 _ rfl; (with_reducible repeat (first | refine blk_drewN ?_ _ | refine blk_drew ?_ | refine blk_alloc ?_ _)); refine blk_put (cs := #[.int .i64 0, .int .i64 0, .bool false]) ?_ 0 _ rfl; (with_reducible repeat (first | refine blk_drewN ?_ _ | refine blk_drew ?_ | refine blk_alloc ?_ _)); exact BK103.out⟩
      have n1_ : Aside0 (Below w.heap.size w (((w9.setCell ⟨gb103, 0, none⟩ (.int .i64 ((rd_T43 l0 x7_1).f0))).setCell ⟨gb103, 1, none⟩ (.int .i64 ((rd_T43 l0 x7_1).f1))).setCell ⟨gb103, 2, none⟩ (.bool ((rd_T43 l0 x7_1).f2)))) := ⟨zB HB⟩
      (try clear BK103)
      (try clear HB)
      generalize (((w9.setCell ⟨gb103, 0, none⟩ (.int .i64 ((rd_T43 l0 x7_1).f0))).setCell ⟨gb103, 1, none⟩ (.int .i64 ((rd_T43 l0 x7_1).f1))).setCell ⟨gb103, 2, none⟩ (.bool ((rd_T43 l0 x7_1).f2))) = w11 at n0_ n1_ ⊢
      have BK103 := n0_
      have HB := n1_
      clear n0_ n1_
      replace BK103 := Aside0.mk (blk_drew BK103.out)
      replace HB := Aside0.mk (below_drew1 HB.out)
      refine start_ (n := 30) (S := fun w' => w'.cell? ⟨gb103, 0, none⟩ = some (.int .i64 ((rd_T43 l0 x7_1).f0)) ∧ w'.cell? ⟨gb103, 1, none⟩ = some (.int .i64 ((rd_T43 l0 x7_1).f1)) ∧ w'.cell? ⟨gb103, 2, none⟩ = some (.bool ((rd_T43 l0 x7_1).f2))) (ds := []) (bm 30 0) (by kernel_rfl) rfl (bm0 _) ⟨bc0 BK103, bc1 BK103, bc2 BK103⟩ (fun hHeld => ?_); refine with_tabW impl_IsRegistry.tab4 impl_IsRegistry.bits4 (fun HT_ HW_ => ?_)
      generalize w11.drew = w12 at BK103 HB hHeld ⊢
      refine pU 0 (some 12) (bm 30 1) HT_ rfl rfl ?_
      refine tU 1 (some 13) (bm 30 3) HT_ HW_ rfl rfl hHeld ?_
      refine one_ (i := 2) (N := some 14) (bm 30 7) rfl rfl (one_of HT_.out (by kernel_rfl)) (by decide) (fun K hK => ?_)
      refine goes_ Try.func28 (by kernel_rfl) rfl #[.int .i64 ((rd_T43 l0 x7_1).f0), .int .i64 0, .int .i64 255] (by rfl) rfl rfl zG ?_
      with_reducible refine (impl_InRange.calls ((rd_T43 l0 x7_1).f0) 0 255 true _ A5.out).mono ?_
      rintro e w' ⟨rfl, ⟨nd, rfl⟩⟩
      refine ⟨_, rfl, ?_⟩
      refine hK.out _ _ ⟨bc0 BK103, bc1 BK103, bc2 BK103⟩ (fun hHeld => ?_)
      clear hK K
      refine norm_ (a' := ?_) ?_ ?_
      rotate_left
      ·show Act.put _ (some 14) _ = _
       simp only [Act.put, List.setIfInBounds_toArray, List.set_cons_zero, List.set_cons_succ, i64_w, i32_w]
       rfl
      refine pU 3 (some 15) (bm 30 15) HT_ rfl rfl ?_
      refine pU 4 (some 16) (bm 30 31) HT_ rfl rfl ?_
      refine pU 5 (some 17) (bm 30 63) HT_ rfl rfl ?_
      refine tU 6 (some 18) (bm 30 127) HT_ HW_ rfl rfl hHeld ?_
      refine one_ (i := 7) (N := some 19) (bm 30 255) rfl rfl (one_of HT_.out (by kernel_rfl)) (by decide) (fun K hK => ?_)
      refine goes_ Try.func16 (by kernel_rfl) rfl #[.int .i64 ((rd_T43 l0 x7_1).f0)] (by rfl) rfl rfl zG ?_
      with_reducible refine (impl_IsReserved.calls ((rd_T43 l0 x7_1).f0) true _ A7.out).mono ?_
      rintro e w' ⟨rfl, ⟨nd, rfl⟩⟩
      refine ⟨_, rfl, ?_⟩
      refine hK.out _ _ ⟨bc0 BK103, bc1 BK103, bc2 BK103⟩ (fun hHeld => ?_)
      clear hK K
      refine norm_ (a' := ?_) ?_ ?_
      rotate_left
      ·show Act.put _ (some 19) _ = _
       simp only [Act.put, List.setIfInBounds_toArray, List.set_cons_zero, List.set_cons_succ, i64_w, i32_w]
       rfl
      refine pU 8 (some 20) (bm 30 511) HT_ rfl rfl ?_
      refine pU 9 (some 21) (bm 30 1023) HT_ rfl rfl ?_
      refine pV 10 (some 22) (bm 30 2047) HT_ rfl rfl ?_
      refine pV 11 (some 23) (bm 30 4095) HT_ rfl rfl ?_
      refine pV 12 (some 24) (bm 30 8191) HT_ rfl rfl ?_
      refine pV 13 (some 25) (bm 30 16383) HT_ rfl rfl ?_
      refine pV 14 (some 26) (bm 30 32767) HT_ rfl rfl ?_
      refine pV 15 (some 27) (bm 30 65535) HT_ rfl rfl ?_
      refine pV 16 (some 28) (bm 30 131071) HT_ rfl rfl ?_
      refine pV 17 (some 29) (bm 30 262143) HT_ rfl rfl ?_
      refine pV 18 (some 30) (bm 30 524287) HT_ rfl rfl ?_
      refine pV 19 (some 31) (bm 30 1048575) HT_ rfl rfl ?_
      refine pV 20 (some 32) (bm 30 2097151) HT_ rfl rfl ?_
      refine pV 21 (some 33) (bm 30 4194303) HT_ rfl rfl ?_
      refine pV 22 (some 34) (bm 30 8388607) HT_ rfl rfl ?_
      refine pU 23 (some 35) (bm 30 16777215) HT_ rfl rfl ?_
      refine pU 24 (some 36) (bm 30 33554431) HT_ rfl rfl ?_
      refine pV 25 (some 37) (bm 30 67108863) HT_ rfl rfl ?_
      refine pV 26 (some 38) (bm 30 134217727) HT_ rfl rfl ?_
      refine pV 27 (some 39) (bm 30 268435455) HT_ rfl rfl ?_
      refine pV 28 (some 40) (bm 30 536870911) HT_ rfl rfl ?_
      refine pU 29 (some 41) (bm 30 1073741823) HT_ rfl rfl ?_
      refine done_ (done_of HT_.out (by kernel_rfl)) ?_
      try clear hHeld
      try go_wp2
      go_ret
      exact ⟨zE, zB HB⟩
     ·replace c8 := Bool.eq_false_iff.mpr c8
      subst c8
      have H1 : (if x7_1 > 0 then (if 0 ≤ (wrap64 (x7_1 - 1)) then (if (wrap64 (x7_1 - 1)) < (l0.length : Int) then (if ((rd_T43 l0 (wrap64 (x7_1 - 1))).f0) ≥ ((rd_T43 l0 x7_1).f0) then (some false) else ((impl_InRange.f ((rd_T43 l0 x7_1).f1) 0 9).bind fun t107 => (if t107 = true then (impl_IsRegistry.l0 k1 l0 l0 (l0.length : Int) (wrap64 (x7_1 + 1))) else (some false)))) else (none)) else (none)) else ((impl_InRange.f ((rd_T43 l0 x7_1).f1) 0 9).bind fun t108 => (if t108 = true then (impl_IsRegistry.l0 k1 l0 l0 (l0.length : Int) (wrap64 (x7_1 + 1))) else (some false)))) = some r := by rw [if_neg (show ¬ (false = true) by decide)] at H; exact H
      clear H
      have H := H1
      clear H1
      by_cases c13 : x7_1 > 0
      ·rw [if_pos c13] at H
       have c13b0 : decide (0 < x7_1) = true := decide_eq_true c13
       clear c13
       obtain ⟨ji14, hji14⟩ : ∃ j_ : Int, (wrap64 (x7_1 - 1)) = j_ := ⟨_, rfl⟩
       replace H : (if 0 ≤ (ji14) then (if (ji14) < (l0.length : Int) then (if ((rd_T43 l0 (ji14)).f0) ≥ ((rd_T43 l0 x7_1).f0) then (some false) else ((impl_InRange.f ((rd_T43 l0 x7_1).f1) 0 9).bind fun t107 => (if t107 = true then (impl_IsRegistry.l0 k1 l0 l0 (l0.length : Int) (wrap64 (x7_1 + 1))) else (some false)))) else (none)) else (none)) = some r := by first | (rw [hji14] at H; exact H) | (simp only [hji14] at H ⊢; exact H)
       (try rw [hji14] at A5)
       (try rw [hji14] at A7)
       have hji14w : (IntKind.i64.wrap (x7_1 - 1)) = ji14 := (i64_w _).trans hji14
       obtain ⟨c15, H⟩ := ifS H
       have c15b0 : decide (0 ≤ (ji14)) = true := decide_eq_true c15
       clear c15
       obtain ⟨c16, H⟩ := ifS H
       have c16b0 : decide ((ji14) < (l0.length : Int)) = true := decide_eq_true c16
       clear c16
       by_cases c17 : ((rd_T43 l0 (ji14)).f0) ≥ ((rd_T43 l0 x7_1).f0)
       ·rw [if_pos c17] at H
        have c17b0 : decide (((rd_T43 l0 x7_1).f0) ≤ ((rd_T43 l0 (ji14)).f0)) = true := decide_eq_true c17
        clear c17
        obtain rfl := Option.some.inj H
        have p102 : 0 ≤ (x7_1 : Int) := zD
        have q102 : x7_1 < (l0.length : Int) := zD
        obtain ⟨ad102, e102, hx102_0, hx102_1, hx102_2⟩ := at_T43 HR0.out x7_1 p102 q102
        cases e102
        replace hx102_0 := hL HB hx102_0
        replace hx102_1 := hL HB hx102_1
        replace hx102_2 := hL HB hx102_2
        replace p102 := eq_true p102
        replace q102 := eq_true q102
        try go_wp2_with (first | ((with_reducible refine gate_dst (N := 4) rfl ?_); refine box_event ?hg (N := 4) ?hd (cs := #[.int .i64 0, .int .i64 0, .bool false]) (t := 43) ?hr ?_; (case hd => rfl); (case hg => rfl); (case hr => first | (go_simp; done) | (go_simp; rfl)); intro gb103 hg w18 hbox hb; have BK103 := Aside0.mk (hbox); have GW103 := gS HB hg; have GE103 := gS HB hg; replace HB := bS HB hb; clear hb hbox hg; have hcz19_0 := bc0 BK103; have hcz19_1 := bc1 BK103; have hcz19_2 := bc2 BK103; have hfz19_0 := bf BK103 0; have hfz19_1 := bf BK103 1; have hfz19_2 := bf BK103 2))
        have n0_ : Aside0 ((((w18.setCell ⟨gb103, 0, none⟩ (.int .i64 ((rd_T43 l0 x7_1).f0))).setCell ⟨gb103, 1, none⟩ (.int .i64 ((rd_T43 l0 x7_1).f1))).setCell ⟨gb103, 2, none⟩ (.bool ((rd_T43 l0 x7_1).f2))).heap[gb103]? = some (.cells #[.int .i64 ((rd_T43 l0 x7_1).f0), .int .i64 ((rd_T43 l0 x7_1).f1), .bool ((rd_T43 l0 x7_1).f2)] 43 (0, 0))) := ⟨by (with_reducible repeat (first | refine blk_drewN ?_ _ | refine blk_drew ?_ | refine blk_alloc ?_ _)); refine blk_put (cs := #[.int .i64 ((rd_T43 l0 x7_1).f0), .int .i64 ((rd_T43 l0 x7_1).f1), .bool false]) ?_ 2 _ rfl; (with_reducible repeat (first | refine blk_drewN ?_ _ | refine blk_drew ?_ | refine blk_alloc ?_ _)); refine blk_put (cs := #[.int .i64 ((rd_T43 l0 x7_1).f0), .int .i64 0, .bool false]) ?_ 1 _ rfl; (with_reducible repeat (first | refine blk_drewN ?_ _ | refine blk_drew ?_ | refine blk_alloc ?_ _)); refine blk_put (cs := #[.int .i64 0, .int .i64 0, .bool false]) ?_ 0 _ rfl; (with_reducible repeat (first | refine blk_drewN ?_ _ | refine blk_drew ?_ | refine blk_alloc ?_ _)); exact BK103.out⟩
        have n1_ : Aside0 (Below w.heap.size w (((w18.setCell ⟨gb103, 0, none⟩ (.int .i64 ((rd_T43 l0 x7_1).f0))).setCell ⟨gb103, 1, none⟩ (.int .i64 ((rd_T43 l0 x7_1).f1))).setCell ⟨gb103, 2, none⟩ (.bool ((rd_T43 l0 x7_1).f2)))) := ⟨zB HB⟩
        (try clear BK103)
        (try clear HB)
        generalize (((w18.setCell ⟨gb103, 0, none⟩ (.int .i64 ((rd_T43 l0 x7_1).f0))).setCell ⟨gb103, 1, none⟩ (.int .i64 ((rd_T43 l0 x7_1).f1))).setCell ⟨gb103, 2, none⟩ (.bool ((rd_T43 l0 x7_1).f2))) = w20 at n0_ n1_ ⊢
        have BK103 := n0_
        have HB := n1_
        clear n0_ n1_
        replace BK103 := Aside0.mk (blk_drew BK103.out)
        replace HB := Aside0.mk (below_drew1 HB.out)
        have p106 : 0 ≤ ((ji14) : Int) := zD
        have q106 : (ji14) < (l0.length : Int) := zD
        obtain ⟨ad106, e106, hx106_0, hx106_1, hx106_2⟩ := at_T43 HR0.out (ji14) p106 q106
        have hw106_2 := hx106_2
        have hw106_1 := hx106_1
        have hw106_0 := hx106_0
        obtain rfl : ad102 = ad106 := (by injection e106)
        replace hx106_0 := hL HB hx106_0
        replace hx106_1 := hL HB hx106_1
        replace hx106_2 := hL HB hx106_2
        replace p106 := eq_true p106
        replace q106 := eq_true q106
        refine start_ (n := 30) (S := fun w' => w'.cell? ⟨gb103, 0, none⟩ = some (.int .i64 ((rd_T43 l0 x7_1).f0)) ∧ w'.cell? ⟨gb103, 1, none⟩ = some (.int .i64 ((rd_T43 l0 x7_1).f1)) ∧ w'.cell? ⟨gb103, 2, none⟩ = some (.bool ((rd_T43 l0 x7_1).f2)) ∧ w'.cell? (ad102.add (((ji14)).toNat * 3)) = some (.int .i64 ((rd_T43 l0 (ji14)).f0)) ∧ w'.cell? ⟨(ad102.add (((ji14)).toNat * 3)).block, (ad102.add (((ji14)).toNat * 3)).off + 1, none⟩ = some (.int .i64 ((rd_T43 l0 (ji14)).f1)) ∧ w'.cell? ⟨(ad102.add (((ji14)).toNat * 3)).block, (ad102.add (((ji14)).toNat * 3)).off + 2, none⟩ = some (.bool ((rd_T43 l0 (ji14)).f2))) (ds := []) (bm 30 0) (by kernel_rfl) rfl (bm0 _) ⟨bc0 BK103, bc1 BK103, bc2 BK103, (hL HB hw106_0), (hL HB hw106_1), (hL HB hw106_2)⟩ (fun hHeld => ?_); refine with_tabW impl_IsRegistry.tab4 impl_IsRegistry.bits4 (fun HT_ HW_ => ?_)
        generalize w20.drew = w21 at BK103 HB hx106_0 hx106_1 hx106_2 hHeld ⊢
        refine pU 0 (some 12) (bm 30 1) HT_ rfl rfl ?_
        refine tU 1 (some 13) (bm 30 3) HT_ HW_ rfl rfl hHeld ?_
        refine one_ (i := 2) (N := some 14) (bm 30 7) rfl rfl (one_of HT_.out (by kernel_rfl)) (by decide) (fun K hK => ?_)
        refine goes_ Try.func28 (by kernel_rfl) rfl #[.int .i64 ((rd_T43 l0 x7_1).f0), .int .i64 0, .int .i64 255] (by rfl) rfl rfl zG ?_
        with_reducible refine (impl_InRange.calls ((rd_T43 l0 x7_1).f0) 0 255 true _ A5.out).mono ?_
        rintro e w' ⟨rfl, ⟨nd, rfl⟩⟩
        refine ⟨_, rfl, ?_⟩
        refine hK.out _ _ ⟨bc0 BK103, bc1 BK103, bc2 BK103, (hL HB hw106_0), (hL HB hw106_1), (hL HB hw106_2)⟩ (fun hHeld => ?_)
        clear hK K
        refine norm_ (a' := ?_) ?_ ?_
        rotate_left
        ·show Act.put _ (some 14) _ = _
         simp only [Act.put, List.setIfInBounds_toArray, List.set_cons_zero, List.set_cons_succ, i64_w, i32_w]
         rfl
        refine pU 3 (some 15) (bm 30 15) HT_ rfl rfl ?_
        refine pU 4 (some 16) (bm 30 31) HT_ rfl rfl ?_
        refine pU 5 (some 17) (bm 30 63) HT_ rfl rfl ?_
        refine tU 6 (some 18) (bm 30 127) HT_ HW_ rfl rfl hHeld ?_
        refine one_ (i := 7) (N := some 19) (bm 30 255) rfl rfl (one_of HT_.out (by kernel_rfl)) (by decide) (fun K hK => ?_)
        refine goes_ Try.func16 (by kernel_rfl) rfl #[.int .i64 ((rd_T43 l0 x7_1).f0)] (by rfl) rfl rfl zG ?_
        with_reducible refine (impl_IsReserved.calls ((rd_T43 l0 x7_1).f0) false _ A7.out).mono ?_
        rintro e w' ⟨rfl, ⟨nd, rfl⟩⟩
        refine ⟨_, rfl, ?_⟩
        refine hK.out _ _ ⟨bc0 BK103, bc1 BK103, bc2 BK103, (hL HB hw106_0), (hL HB hw106_1), (hL HB hw106_2)⟩ (fun hHeld => ?_)
        clear hK K
        refine norm_ (a' := ?_) ?_ ?_
        rotate_left
        ·show Act.put _ (some 19) _ = _
         simp only [Act.put, List.setIfInBounds_toArray, List.set_cons_zero, List.set_cons_succ, i64_w, i32_w]
         rfl
        refine pU 8 (some 20) (bm 30 511) HT_ rfl rfl ?_
        refine pU 9 (some 21) (bm 30 1023) HT_ rfl rfl ?_
        refine pU 10 (some 22) (bm 30 2047) HT_ rfl rfl ?_
        refine pU 11 (some 23) (bm 30 4095) HT_ rfl rfl ?_
        refine pU 12 (some 24) (bm 30 8191) HT_ rfl rfl ?_
        refine pU 13 (some 25) (bm 30 16383) HT_ rfl rfl ?_
        refine pU 14 (some 26) (bm 30 32767) HT_ rfl rfl ?_
        refine pU 15 (some 27) (bm 30 65535) HT_ rfl rfl ?_
        refine pU 16 (some 28) (bm 30 131071) HT_ rfl rfl ?_
        refine pU 17 (some 29) (bm 30 262143) HT_ rfl rfl ?_
        refine pU 19 (some 31) (bm 30 786431) HT_ rfl rfl ?_
        refine tU 18 (some 30) (bm 30 1048575) HT_ HW_ rfl rfl hHeld ?_
        refine tU 20 (some 32) (bm 30 2097151) HT_ HW_ rfl rfl hHeld ?_
        refine pU 21 (some 33) (bm 30 4194303) HT_ rfl rfl ?_
        refine pU 22 (some 34) (bm 30 8388607) HT_ rfl rfl ?_
        refine pU 23 (some 35) (bm 30 16777215) HT_ rfl rfl ?_
        refine pU 24 (some 36) (bm 30 33554431) HT_ rfl rfl ?_
        refine pV 25 (some 37) (bm 30 67108863) HT_ rfl rfl ?_
        refine pV 26 (some 38) (bm 30 134217727) HT_ rfl rfl ?_
        refine pV 27 (some 39) (bm 30 268435455) HT_ rfl rfl ?_
        refine pV 28 (some 40) (bm 30 536870911) HT_ rfl rfl ?_
        refine pU 29 (some 41) (bm 30 1073741823) HT_ rfl rfl ?_
        refine done_ (done_of HT_.out (by kernel_rfl)) ?_
        try clear hHeld
        try go_wp2
        go_ret
        exact ⟨by first | rfl | (simp [errW_none, errW_some] <;> rfl) | (simp only [← hji14]; first | rfl | (simp [errW_none, errW_some] <;> rfl)) | (simp [*, errW_none, errW_some] <;> rfl), zB HB⟩
       ·rw [if_neg c17] at H
        have c17b0 : decide (((rd_T43 l0 x7_1).f0) ≤ ((rd_T43 l0 (ji14)).f0)) = false := decide_eq_false c17
        clear c17
        obtain ⟨t107, A22, H⟩ := bindS H
        by_cases c23 : t107 = true
        ·subst c23
         have H1 : (impl_IsRegistry.l0 k1 l0 l0 (l0.length : Int) (wrap64 (x7_1 + 1))) = some r := by rw [if_pos rfl] at H; exact H
         clear H
         have H := H1
         clear H1
         have H' := Aside0.mk H
         clear H
         have p102 : 0 ≤ (x7_1 : Int) := zD
         have q102 : x7_1 < (l0.length : Int) := zD
         obtain ⟨ad102, e102, hx102_0, hx102_1, hx102_2⟩ := at_T43 HR0.out x7_1 p102 q102
         cases e102
         replace hx102_0 := hL HB hx102_0
         replace hx102_1 := hL HB hx102_1
         replace hx102_2 := hL HB hx102_2
         replace p102 := eq_true p102
         replace q102 := eq_true q102
         try go_wp2_with (first | ((with_reducible refine gate_dst (N := 4) rfl ?_); refine box_event ?hg (N := 4) ?hd (cs := #[.int .i64 0, .int .i64 0, .bool false]) (t := 43) ?hr ?_; (case hd => rfl); (case hg => rfl); (case hr => first | (go_simp; done) | (go_simp; rfl)); intro gb103 hg w24 hbox hb; have BK103 := Aside0.mk (hbox); have GW103 := gS HB hg; have GE103 := gS HB hg; replace HB := bS HB hb; clear hb hbox hg; have hcz25_0 := bc0 BK103; have hcz25_1 := bc1 BK103; have hcz25_2 := bc2 BK103; have hfz25_0 := bf BK103 0; have hfz25_1 := bf BK103 1; have hfz25_2 := bf BK103 2))
         have n0_ : Aside0 ((((w24.setCell ⟨gb103, 0, none⟩ (.int .i64 ((rd_T43 l0 x7_1).f0))).setCell ⟨gb103, 1, none⟩ (.int .i64 ((rd_T43 l0 x7_1).f1))).setCell ⟨gb103, 2, none⟩ (.bool ((rd_T43 l0 x7_1).f2))).heap[gb103]? = some (.cells #[.int .i64 ((rd_T43 l0 x7_1).f0), .int .i64 ((rd_T43 l0 x7_1).f1), .bool ((rd_T43 l0 x7_1).f2)] 43 (0, 0))) := ⟨by (with_reducible repeat (first | refine blk_drewN ?_ _ | refine blk_drew ?_ | refine blk_alloc ?_ _)); refine blk_put (cs := #[.int .i64 ((rd_T43 l0 x7_1).f0), .int .i64 ((rd_T43 l0 x7_1).f1), .bool false]) ?_ 2 _ rfl; (with_reducible repeat (first | refine blk_drewN ?_ _ | refine blk_drew ?_ | refine blk_alloc ?_ _)); refine blk_put (cs := #[.int .i64 ((rd_T43 l0 x7_1).f0), .int .i64 0, .bool false]) ?_ 1 _ rfl; (with_reducible repeat (first | refine blk_drewN ?_ _ | refine blk_drew ?_ | refine blk_alloc ?_ _)); refine blk_put (cs := #[.int .i64 0, .int .i64 0, .bool false]) ?_ 0 _ rfl; (with_reducible repeat (first | refine blk_drewN ?_ _ | refine blk_drew ?_ | refine blk_alloc ?_ _)); exact BK103.out⟩
         have n1_ : Aside0 (Below w.heap.size w (((w24.setCell ⟨gb103, 0, none⟩ (.int .i64 ((rd_T43 l0 x7_1).f0))).setCell ⟨gb103, 1, none⟩ (.int .i64 ((rd_T43 l0 x7_1).f1))).setCell ⟨gb103, 2, none⟩ (.bool ((rd_T43 l0 x7_1).f2)))) := ⟨zB HB⟩
         (try clear BK103)
         (try clear HB)
         generalize (((w24.setCell ⟨gb103, 0, none⟩ (.int .i64 ((rd_T43 l0 x7_1).f0))).setCell ⟨gb103, 1, none⟩ (.int .i64 ((rd_T43 l0 x7_1).f1))).setCell ⟨gb103, 2, none⟩ (.bool ((rd_T43 l0 x7_1).f2))) = w26 at n0_ n1_ ⊢
         have BK103 := n0_
         have HB := n1_
         clear n0_ n1_
         replace BK103 := Aside0.mk (blk_drew BK103.out)
         replace HB := Aside0.mk (below_drew1 HB.out)
         have p106 : 0 ≤ ((ji14) : Int) := zD
         have q106 : (ji14) < (l0.length : Int) := zD
         obtain ⟨ad106, e106, hx106_0, hx106_1, hx106_2⟩ := at_T43 HR0.out (ji14) p106 q106
         have hw106_2 := hx106_2
         have hw106_1 := hx106_1
         have hw106_0 := hx106_0
         obtain rfl : ad102 = ad106 := (by injection e106)
         replace hx106_0 := hL HB hx106_0
         replace hx106_1 := hL HB hx106_1
         replace hx106_2 := hL HB hx106_2
         replace p106 := eq_true p106
         replace q106 := eq_true q106
         refine start_ (n := 30) (S := fun w' => w'.cell? ⟨gb103, 0, none⟩ = some (.int .i64 ((rd_T43 l0 x7_1).f0)) ∧ w'.cell? ⟨gb103, 1, none⟩ = some (.int .i64 ((rd_T43 l0 x7_1).f1)) ∧ w'.cell? ⟨gb103, 2, none⟩ = some (.bool ((rd_T43 l0 x7_1).f2)) ∧ w'.cell? (ad102.add (((ji14)).toNat * 3)) = some (.int .i64 ((rd_T43 l0 (ji14)).f0)) ∧ w'.cell? ⟨(ad102.add (((ji14)).toNat * 3)).block, (ad102.add (((ji14)).toNat * 3)).off + 1, none⟩ = some (.int .i64 ((rd_T43 l0 (ji14)).f1)) ∧ w'.cell? ⟨(ad102.add (((ji14)).toNat * 3)).block, (ad102.add (((ji14)).toNat * 3)).off + 2, none⟩ = some (.bool ((rd_T43 l0 (ji14)).f2))) (ds := []) (bm 30 0) (by kernel_rfl) rfl (bm0 _) ⟨bc0 BK103, bc1 BK103, bc2 BK103, (hL HB hw106_0), (hL HB hw106_1), (hL HB hw106_2)⟩ (fun hHeld => ?_); refine with_tabW impl_IsRegistry.tab4 impl_IsRegistry.bits4 (fun HT_ HW_ => ?_)
         generalize w26.drew = w27 at BK103 HB hx106_0 hx106_1 hx106_2 hHeld ⊢
         refine pU 0 (some 12) (bm 30 1) HT_ rfl rfl ?_
         refine tU 1 (some 13) (bm 30 3) HT_ HW_ rfl rfl hHeld ?_
         refine one_ (i := 2) (N := some 14) (bm 30 7) rfl rfl (one_of HT_.out (by kernel_rfl)) (by decide) (fun K hK => ?_)
         refine goes_ Try.func28 (by kernel_rfl) rfl #[.int .i64 ((rd_T43 l0 x7_1).f0), .int .i64 0, .int .i64 255] (by rfl) rfl rfl zG ?_
         with_reducible refine (impl_InRange.calls ((rd_T43 l0 x7_1).f0) 0 255 true _ A5.out).mono ?_
         rintro e w' ⟨rfl, ⟨nd, rfl⟩⟩
         refine ⟨_, rfl, ?_⟩
         refine hK.out _ _ ⟨bc0 BK103, bc1 BK103, bc2 BK103, (hL HB hw106_0), (hL HB hw106_1), (hL HB hw106_2)⟩ (fun hHeld => ?_)
         clear hK K
         refine norm_ (a' := ?_) ?_ ?_
         rotate_left
         ·show Act.put _ (some 14) _ = _
          simp only [Act.put, List.setIfInBounds_toArray, List.set_cons_zero, List.set_cons_succ, i64_w, i32_w]
          rfl
         refine pU 3 (some 15) (bm 30 15) HT_ rfl rfl ?_
         refine pU 4 (some 16) (bm 30 31) HT_ rfl rfl ?_
         refine pU 5 (some 17) (bm 30 63) HT_ rfl rfl ?_
         refine tU 6 (some 18) (bm 30 127) HT_ HW_ rfl rfl hHeld ?_
         refine one_ (i := 7) (N := some 19) (bm 30 255) rfl rfl (one_of HT_.out (by kernel_rfl)) (by decide) (fun K hK => ?_)
         refine goes_ Try.func16 (by kernel_rfl) rfl #[.int .i64 ((rd_T43 l0 x7_1).f0)] (by rfl) rfl rfl zG ?_
         with_reducible refine (impl_IsReserved.calls ((rd_T43 l0 x7_1).f0) false _ A7.out).mono ?_
         rintro e w' ⟨rfl, ⟨nd, rfl⟩⟩
         refine ⟨_, rfl, ?_⟩
         refine hK.out _ _ ⟨bc0 BK103, bc1 BK103, bc2 BK103, (hL HB hw106_0), (hL HB hw106_1), (hL HB hw106_2)⟩ (fun hHeld => ?_)
         clear hK K
         refine norm_ (a' := ?_) ?_ ?_
         rotate_left
         ·show Act.put _ (some 19) _ = _
          simp only [Act.put, List.setIfInBounds_toArray, List.set_cons_zero, List.set_cons_succ, i64_w, i32_w]
          rfl
         refine pU 8 (some 20) (bm 30 511) HT_ rfl rfl ?_
         refine pU 9 (some 21) (bm 30 1023) HT_ rfl rfl ?_
         refine pU 10 (some 22) (bm 30 2047) HT_ rfl rfl ?_
         refine pU 11 (some 23) (bm 30 4095) HT_ rfl rfl ?_
         refine pU 12 (some 24) (bm 30 8191) HT_ rfl rfl ?_
         refine pU 13 (some 25) (bm 30 16383) HT_ rfl rfl ?_
         refine pU 14 (some 26) (bm 30 32767) HT_ rfl rfl ?_
         refine pU 15 (some 27) (bm 30 65535) HT_ rfl rfl ?_
         refine pU 16 (some 28) (bm 30 131071) HT_ rfl rfl ?_
         refine pU 17 (some 29) (bm 30 262143) HT_ rfl rfl ?_
         refine pU 19 (some 31) (bm 30 786431) HT_ rfl rfl ?_
         refine tU 18 (some 30) (bm 30 1048575) HT_ HW_ rfl rfl hHeld ?_
         refine tU 20 (some 32) (bm 30 2097151) HT_ HW_ rfl rfl hHeld ?_
         refine pU 21 (some 33) (bm 30 4194303) HT_ rfl rfl ?_
         refine pU 22 (some 34) (bm 30 8388607) HT_ rfl rfl ?_
         refine pU 23 (some 35) (bm 30 16777215) HT_ rfl rfl ?_
         refine pU 24 (some 36) (bm 30 33554431) HT_ rfl rfl ?_
         refine pU 25 (some 37) (bm 30 67108863) HT_ rfl rfl ?_
         refine tU 26 (some 38) (bm 30 134217727) HT_ HW_ rfl rfl hHeld ?_
         refine one_ (i := 27) (N := some 39) (bm 30 268435455) rfl rfl (one_of HT_.out (by kernel_rfl)) (by decide) (fun K hK => ?_)
         refine goes_ Try.func28 (by kernel_rfl) rfl #[.int .i64 ((rd_T43 l0 x7_1).f1), .int .i64 0, .int .i64 9] (by rfl) rfl rfl zG ?_
         with_reducible refine (impl_InRange.calls ((rd_T43 l0 x7_1).f1) 0 9 true _ A22.out).mono ?_
         rintro e w' ⟨rfl, ⟨nd, rfl⟩⟩
         refine ⟨_, rfl, ?_⟩
         refine hK.out _ _ ⟨bc0 BK103, bc1 BK103, bc2 BK103, (hL HB hw106_0), (hL HB hw106_1), (hL HB hw106_2)⟩ (fun hHeld => ?_)
         clear hK K
         refine norm_ (a' := ?_) ?_ ?_
         rotate_left
         ·show Act.put _ (some 39) _ = _
          simp only [Act.put, List.setIfInBounds_toArray, List.set_cons_zero, List.set_cons_succ, i64_w, i32_w]
          rfl
         refine pU 28 (some 40) (bm 30 536870911) HT_ rfl rfl ?_
         refine pU 29 (some 41) (bm 30 1073741823) HT_ rfl rfl ?_
         refine done_ (done_of HT_.out (by kernel_rfl)) ?_
         try clear hHeld
         try go_wp2
         go_roundg k1
         case measure => have := HK1.out; omega
         case rel => exact ⟨(wrap64 (x7_1 + 1)), zF, H', ⟨by have := HK1.out; omega⟩, ⟨zB HB⟩⟩
        ·replace c23 := Bool.eq_false_iff.mpr c23
         subst c23
         have H1 : (some false) = some r := by rw [if_neg (show ¬ (false = true) by decide)] at H; exact H
         clear H
         have H := H1
         clear H1
         obtain rfl := Option.some.inj H
         have p102 : 0 ≤ (x7_1 : Int) := zD
         have q102 : x7_1 < (l0.length : Int) := zD
         obtain ⟨ad102, e102, hx102_0, hx102_1, hx102_2⟩ := at_T43 HR0.out x7_1 p102 q102
         cases e102
         replace hx102_0 := hL HB hx102_0
         replace hx102_1 := hL HB hx102_1
         replace hx102_2 := hL HB hx102_2
         replace p102 := eq_true p102
         replace q102 := eq_true q102
         try go_wp2_with (first | ((with_reducible refine gate_dst (N := 4) rfl ?_); refine box_event ?hg (N := 4) ?hd (cs := #[.int .i64 0, .int .i64 0, .bool false]) (t := 43) ?hr ?_; (case hd => rfl); (case hg => rfl); (case hr => first | (go_simp; done) | (go_simp; rfl)); intro gb103 hg w28 hbox hb; have BK103 := Aside0.mk (hbox); have GW103 := gS HB hg; have GE103 := gS HB hg; replace HB := bS HB hb; clear hb hbox hg; have hcz29_0 := bc0 BK103; have hcz29_1 := bc1 BK103; have hcz29_2 := bc2 BK103; have hfz29_0 := bf BK103 0; have hfz29_1 := bf BK103 1; have hfz29_2 := bf BK103 2))
         have n0_ : Aside0 ((((w28.setCell ⟨gb103, 0, none⟩ (.int .i64 ((rd_T43 l0 x7_1).f0))).setCell ⟨gb103, 1, none⟩ (.int .i64 ((rd_T43 l0 x7_1).f1))).setCell ⟨gb103, 2, none⟩ (.bool ((rd_T43 l0 x7_1).f2))).heap[gb103]? = some (.cells #[.int .i64 ((rd_T43 l0 x7_1).f0), .int .i64 ((rd_T43 l0 x7_1).f1), .bool ((rd_T43 l0 x7_1).f2)] 43 (0, 0))) := ⟨by (with_reducible repeat (first | refine blk_drewN ?_ _ | refine blk_drew ?_ | refine blk_alloc ?_ _)); refine blk_put (cs := #[.int .i64 ((rd_T43 l0 x7_1).f0), .int .i64 ((rd_T43 l0 x7_1).f1), .bool false]) ?_ 2 _ rfl; (with_reducible repeat (first | refine blk_drewN ?_ _ | refine blk_drew ?_ | refine blk_alloc ?_ _)); refine blk_put (cs := #[.int .i64 ((rd_T43 l0 x7_1).f0), .int .i64 0, .bool false]) ?_ 1 _ rfl; (with_reducible repeat (first | refine blk_drewN ?_ _ | refine blk_drew ?_ | refine blk_alloc ?_ _)); refine blk_put (cs := #[.int .i64 0, .int .i64 0, .bool false]) ?_ 0 _ rfl; (with_reducible repeat (first | refine blk_drewN ?_ _ | refine blk_drew ?_ | refine blk_alloc ?_ _)); exact BK103.out⟩
         have n1_ : Aside0 (Below w.heap.size w (((w28.setCell ⟨gb103, 0, none⟩ (.int .i64 ((rd_T43 l0 x7_1).f0))).setCell ⟨gb103, 1, none⟩ (.int .i64 ((rd_T43 l0 x7_1).f1))).setCell ⟨gb103, 2, none⟩ (.bool ((rd_T43 l0 x7_1).f2)))) := ⟨zB HB⟩
         (try clear BK103)
         (try clear HB)
         generalize (((w28.setCell ⟨gb103, 0, none⟩ (.int .i64 ((rd_T43 l0 x7_1).f0))).setCell ⟨gb103, 1, none⟩ (.int .i64 ((rd_T43 l0 x7_1).f1))).setCell ⟨gb103, 2, none⟩ (.bool ((rd_T43 l0 x7_1).f2))) = w30 at n0_ n1_ ⊢
         have BK103 := n0_
         have HB := n1_
         clear n0_ n1_
         replace BK103 := Aside0.mk (blk_drew BK103.out)
         replace HB := Aside0.mk (below_drew1 HB.out)
         have p106 : 0 ≤ ((ji14) : Int) := zD
         have q106 : (ji14) < (l0.length : Int) := zD
         obtain ⟨ad106, e106, hx106_0, hx106_1, hx106_2⟩ := at_T43 HR0.out (ji14) p106 q106
         have hw106_2 := hx106_2
         have hw106_1 := hx106_1
         have hw106_0 := hx106_0
         obtain rfl : ad102 = ad106 := (by injection e106)
         replace hx106_0 := hL HB hx106_0
         replace hx106_1 := hL HB hx106_1
         replace hx106_2 := hL HB hx106_2
         replace p106 := eq_true p106
         replace q106 := eq_true q106
         refine start_ (n := 30) (S := fun w' => w'.cell? ⟨gb103, 0, none⟩ = some (.int .i64 ((rd_T43 l0 x7_1).f0)) ∧ w'.cell? ⟨gb103, 1, none⟩ = some (.int .i64 ((rd_T43 l0 x7_1).f1)) ∧ w'.cell? ⟨gb103, 2, none⟩ = some (.bool ((rd_T43 l0 x7_1).f2)) ∧ w'.cell? (ad102.add (((ji14)).toNat * 3)) = some (.int .i64 ((rd_T43 l0 (ji14)).f0)) ∧ w'.cell? ⟨(ad102.add (((ji14)).toNat * 3)).block, (ad102.add (((ji14)).toNat * 3)).off + 1, none⟩ = some (.int .i64 ((rd_T43 l0 (ji14)).f1)) ∧ w'.cell? ⟨(ad102.add (((ji14)).toNat * 3)).block, (ad102.add (((ji14)).toNat * 3)).off + 2, none⟩ = some (.bool ((rd_T43 l0 (ji14)).f2))) (ds := []) (bm 30 0) (by kernel_rfl) rfl (bm0 _) ⟨bc0 BK103, bc1 BK103, bc2 BK103, (hL HB hw106_0), (hL HB hw106_1), (hL HB hw106_2)⟩ (fun hHeld => ?_); refine with_tabW impl_IsRegistry.tab4 impl_IsRegistry.bits4 (fun HT_ HW_ => ?_)
         generalize w30.drew = w31 at BK103 HB hx106_0 hx106_1 hx106_2 hHeld ⊢
         refine pU 0 (some 12) (bm 30 1) HT_ rfl rfl ?_
         refine tU 1 (some 13) (bm 30 3) HT_ HW_ rfl rfl hHeld ?_
         refine one_ (i := 2) (N := some 14) (bm 30 7) rfl rfl (one_of HT_.out (by kernel_rfl)) (by decide) (fun K hK => ?_)
         refine goes_ Try.func28 (by kernel_rfl) rfl #[.int .i64 ((rd_T43 l0 x7_1).f0), .int .i64 0, .int .i64 255] (by rfl) rfl rfl zG ?_
         with_reducible refine (impl_InRange.calls ((rd_T43 l0 x7_1).f0) 0 255 true _ A5.out).mono ?_
         rintro e w' ⟨rfl, ⟨nd, rfl⟩⟩
         refine ⟨_, rfl, ?_⟩
         refine hK.out _ _ ⟨bc0 BK103, bc1 BK103, bc2 BK103, (hL HB hw106_0), (hL HB hw106_1), (hL HB hw106_2)⟩ (fun hHeld => ?_)
         clear hK K
         refine norm_ (a' := ?_) ?_ ?_
         rotate_left
         ·show Act.put _ (some 14) _ = _
          simp only [Act.put, List.setIfInBounds_toArray, List.set_cons_zero, List.set_cons_succ, i64_w, i32_w]
          rfl
         refine pU 3 (some 15) (bm 30 15) HT_ rfl rfl ?_
         refine pU 4 (some 16) (bm 30 31) HT_ rfl rfl ?_
         refine pU 5 (some 17) (bm 30 63) HT_ rfl rfl ?_
         refine tU 6 (some 18) (bm 30 127) HT_ HW_ rfl rfl hHeld ?_
         refine one_ (i := 7) (N := some 19) (bm 30 255) rfl rfl (one_of HT_.out (by kernel_rfl)) (by decide) (fun K hK => ?_)
         refine goes_ Try.func16 (by kernel_rfl) rfl #[.int .i64 ((rd_T43 l0 x7_1).f0)] (by rfl) rfl rfl zG ?_
         with_reducible refine (impl_IsReserved.calls ((rd_T43 l0 x7_1).f0) false _ A7.out).mono ?_
         rintro e w' ⟨rfl, ⟨nd, rfl⟩⟩
         refine ⟨_, rfl, ?_⟩
         refine hK.out _ _ ⟨bc0 BK103, bc1 BK103, bc2 BK103, (hL HB hw106_0), (hL HB hw106_1), (hL HB hw106_2)⟩ (fun hHeld => ?_)
         clear hK K
         refine norm_ (a' := ?_) ?_ ?_
         rotate_left
         ·show Act.put _ (some 19) _ = _
          simp only [Act.put, List.setIfInBounds_toArray, List.set_cons_zero, List.set_cons_succ, i64_w, i32_w]
          rfl
         refine pU 8 (some 20) (bm 30 511) HT_ rfl rfl ?_
         refine pU 9 (some 21) (bm 30 1023) HT_ rfl rfl ?_
         refine pU 10 (some 22) (bm 30 2047) HT_ rfl rfl ?_
         refine pU 11 (some 23) (bm 30 4095) HT_ rfl rfl ?_
         refine pU 12 (some 24) (bm 30 8191) HT_ rfl rfl ?_
         refine pU 13 (some 25) (bm 30 16383) HT_ rfl rfl ?_
         refine pU 14 (some 26) (bm 30 32767) HT_ rfl rfl ?_
         refine pU 15 (some 27) (bm 30 65535) HT_ rfl rfl ?_
         refine pU 16 (some 28) (bm 30 131071) HT_ rfl rfl ?_
         refine pU 17 (some 29) (bm 30 262143) HT_ rfl rfl ?_
         refine pU 19 (some 31) (bm 30 786431) HT_ rfl rfl ?_
         refine tU 18 (some 30) (bm 30 1048575) HT_ HW_ rfl rfl hHeld ?_
         refine tU 20 (some 32) (bm 30 2097151) HT_ HW_ rfl rfl hHeld ?_
         refine pU 21 (some 33) (bm 30 4194303) HT_ rfl rfl ?_
         refine pU 22 (some 34) (bm 30 8388607) HT_ rfl rfl ?_
         refine pU 23 (some 35) (bm 30 16777215) HT_ rfl rfl ?_
         refine pU 24 (some 36) (bm 30 33554431) HT_ rfl rfl ?_
         refine pU 25 (some 37) (bm 30 67108863) HT_ rfl rfl ?_
         refine tU 26 (some 38) (bm 30 134217727) HT_ HW_ rfl rfl hHeld ?_
         refine one_ (i := 27) (N := some 39) (bm 30 268435455) rfl rfl (one_of HT_.out (by kernel_rfl)) (by decide) (fun K hK => ?_)
         refine goes_ Try.func28 (by kernel_rfl) rfl #[.int .i64 ((rd_T43 l0 x7_1).f1), .int .i64 0, .int .i64 9] (by rfl) rfl rfl zG ?_
         with_reducible refine (impl_InRange.calls ((rd_T43 l0 x7_1).f1) 0 9 false _ A22.out).mono ?_
         rintro e w' ⟨rfl, ⟨nd, rfl⟩⟩
         refine ⟨_, rfl, ?_⟩
         refine hK.out _ _ ⟨bc0 BK103, bc1 BK103, bc2 BK103, (hL HB hw106_0), (hL HB hw106_1), (hL HB hw106_2)⟩ (fun hHeld => ?_)
         clear hK K
         refine norm_ (a' := ?_) ?_ ?_
         rotate_left
         ·show Act.put _ (some 39) _ = _
          simp only [Act.put, List.setIfInBounds_toArray, List.set_cons_zero, List.set_cons_succ, i64_w, i32_w]
          rfl
         refine pU 28 (some 40) (bm 30 536870911) HT_ rfl rfl ?_
         refine pU 29 (some 41) (bm 30 1073741823) HT_ rfl rfl ?_
         refine done_ (done_of HT_.out (by kernel_rfl)) ?_
         try clear hHeld
         try go_wp2
         go_ret
         exact ⟨by first | rfl | (simp [errW_none, errW_some] <;> rfl) | (simp only [← hji14]; first | rfl | (simp [errW_none, errW_some] <;> rfl)) | (simp [*, errW_none, errW_some] <;> rfl), zB HB⟩
      ·rw [if_neg c13] at H
       have c13b0 : decide (0 < x7_1) = false := decide_eq_false c13
       clear c13
       obtain ⟨t108, A32, H⟩ := bindS H
       by_cases c33 : t108 = true
       ·subst c33
        have H1 : (impl_IsRegistry.l0 k1 l0 l0 (l0.length : Int) (wrap64 (x7_1 + 1))) = some r := by rw [if_pos rfl] at H; exact H
        clear H
        have H := H1
        clear H1
        have H' := Aside0.mk H
        clear H
        have p102 : 0 ≤ (x7_1 : Int) := zD
        have q102 : x7_1 < (l0.length : Int) := zD
        obtain ⟨ad102, e102, hx102_0, hx102_1, hx102_2⟩ := at_T43 HR0.out x7_1 p102 q102
        cases e102
        replace hx102_0 := hL HB hx102_0
        replace hx102_1 := hL HB hx102_1
        replace hx102_2 := hL HB hx102_2
        replace p102 := eq_true p102
        replace q102 := eq_true q102
        try go_wp2_with (first | ((with_reducible refine gate_dst (N := 4) rfl ?_); refine box_event ?hg (N := 4) ?hd (cs := #[.int .i64 0, .int .i64 0, .bool false]) (t := 43) ?hr ?_; (case hd => rfl); (case hg => rfl); (case hr => first | (go_simp; done) | (go_simp; rfl)); intro gb103 hg w34 hbox hb; have BK103 := Aside0.mk (hbox); have GW103 := gS HB hg; have GE103 := gS HB hg; replace HB := bS HB hb; clear hb hbox hg; have hcz35_0 := bc0 BK103; have hcz35_1 := bc1 BK103; have hcz35_2 := bc2 BK103; have hfz35_0 := bf BK103 0; have hfz35_1 := bf BK103 1; have hfz35_2 := bf BK103 2))
        have n0_ : Aside0 ((((w34.setCell ⟨gb103, 0, none⟩ (.int .i64 ((rd_T43 l0 x7_1).f0))).setCell ⟨gb103, 1, none⟩ (.int .i64 ((rd_T43 l0 x7_1).f1))).setCell ⟨gb103, 2, none⟩ (.bool ((rd_T43 l0 x7_1).f2))).heap[gb103]? = some (.cells #[.int .i64 ((rd_T43 l0 x7_1).f0), .int .i64 ((rd_T43 l0 x7_1).f1), .bool ((rd_T43 l0 x7_1).f2)] 43 (0, 0))) := ⟨by (with_reducible repeat (first | refine blk_drewN ?_ _ | refine blk_drew ?_ | refine blk_alloc ?_ _)); refine blk_put (cs := #[.int .i64 ((rd_T43 l0 x7_1).f0), .int .i64 ((rd_T43 l0 x7_1).f1), .bool false]) ?_ 2 _ rfl; (with_reducible repeat (first | refine blk_drewN ?_ _ | refine blk_drew ?_ | refine blk_alloc ?_ _)); refine blk_put (cs := #[.int .i64 ((rd_T43 l0 x7_1).f0), .int .i64 0, .bool false]) ?_ 1 _ rfl; (with_reducible repeat (first | refine blk_drewN ?_ _ | refine blk_drew ?_ | refine blk_alloc ?_ _)); refine blk_put (cs := #[.int .i64 0, .int .i64 0, .bool false]) ?_ 0 _ rfl; (with_reducible repeat (first | refine blk_drewN ?_ _ | refine blk_drew ?_ | refine blk_alloc ?_ _)); exact BK103.out⟩
        have n1_ : Aside0 (Below w.heap.size w (((w34.setCell ⟨gb103, 0, none⟩ (.int .i64 ((rd_T43 l0 x7_1).f0))).setCell ⟨gb103, 1, none⟩ (.int .i64 ((rd_T43 l0 x7_1).f1))).setCell ⟨gb103, 2, none⟩ (.bool ((rd_T43 l0 x7_1).f2)))) := ⟨zB HB⟩
        (try clear BK103)
        (try clear HB)
        generalize (((w34.setCell ⟨gb103, 0, none⟩ (.int .i64 ((rd_T43 l0 x7_1).f0))).setCell ⟨gb103, 1, none⟩ (.int .i64 ((rd_T43 l0 x7_1).f1))).setCell ⟨gb103, 2, none⟩ (.bool ((rd_T43 l0 x7_1).f2))) = w36 at n0_ n1_ ⊢
        have BK103 := n0_
        have HB := n1_
        clear n0_ n1_
        replace BK103 := Aside0.mk (blk_drew BK103.out)
        replace HB := Aside0.mk (below_drew1 HB.out)
        refine start_ (n := 30) (S := fun w' => w'.cell? ⟨gb103, 0, none⟩ = some (.int .i64 ((rd_T43 l0 x7_1).f0)) ∧ w'.cell? ⟨gb103, 1, none⟩ = some (.int .i64 ((rd_T43 l0 x7_1).f1)) ∧ w'.cell? ⟨gb103, 2, none⟩ = some (.bool ((rd_T43 l0 x7_1).f2))) (ds := []) (bm 30 0) (by kernel_rfl) rfl (bm0 _) ⟨bc0 BK103, bc1 BK103, bc2 BK103⟩ (fun hHeld => ?_); refine with_tabW impl_IsRegistry.tab4 impl_IsRegistry.bits4 (fun HT_ HW_ => ?_)
        generalize w36.drew = w37 at BK103 HB hHeld ⊢
        refine pU 0 (some 12) (bm 30 1) HT_ rfl rfl ?_
        refine tU 1 (some 13) (bm 30 3) HT_ HW_ rfl rfl hHeld ?_
        refine one_ (i := 2) (N := some 14) (bm 30 7) rfl rfl (one_of HT_.out (by kernel_rfl)) (by decide) (fun K hK => ?_)
        refine goes_ Try.func28 (by kernel_rfl) rfl #[.int .i64 ((rd_T43 l0 x7_1).f0), .int .i64 0, .int .i64 255] (by rfl) rfl rfl zG ?_
        with_reducible refine (impl_InRange.calls ((rd_T43 l0 x7_1).f0) 0 255 true _ A5.out).mono ?_
        rintro e w' ⟨rfl, ⟨nd, rfl⟩⟩
        refine ⟨_, rfl, ?_⟩
        refine hK.out _ _ ⟨bc0 BK103, bc1 BK103, bc2 BK103⟩ (fun hHeld => ?_)
        clear hK K
        refine norm_ (a' := ?_) ?_ ?_
        rotate_left
        ·show Act.put _ (some 14) _ = _
         simp only [Act.put, List.setIfInBounds_toArray, List.set_cons_zero, List.set_cons_succ, i64_w, i32_w]
         rfl
        refine pU 3 (some 15) (bm 30 15) HT_ rfl rfl ?_
        refine pU 4 (some 16) (bm 30 31) HT_ rfl rfl ?_
        refine pU 5 (some 17) (bm 30 63) HT_ rfl rfl ?_
        refine tU 6 (some 18) (bm 30 127) HT_ HW_ rfl rfl hHeld ?_
        refine one_ (i := 7) (N := some 19) (bm 30 255) rfl rfl (one_of HT_.out (by kernel_rfl)) (by decide) (fun K hK => ?_)
        refine goes_ Try.func16 (by kernel_rfl) rfl #[.int .i64 ((rd_T43 l0 x7_1).f0)] (by rfl) rfl rfl zG ?_
        with_reducible refine (impl_IsReserved.calls ((rd_T43 l0 x7_1).f0) false _ A7.out).mono ?_
        rintro e w' ⟨rfl, ⟨nd, rfl⟩⟩
        refine ⟨_, rfl, ?_⟩
        refine hK.out _ _ ⟨bc0 BK103, bc1 BK103, bc2 BK103⟩ (fun hHeld => ?_)
        clear hK K
        refine norm_ (a' := ?_) ?_ ?_
        rotate_left
        ·show Act.put _ (some 19) _ = _
         simp only [Act.put, List.setIfInBounds_toArray, List.set_cons_zero, List.set_cons_succ, i64_w, i32_w]
         rfl
        refine pU 8 (some 20) (bm 30 511) HT_ rfl rfl ?_
        refine pU 9 (some 21) (bm 30 1023) HT_ rfl rfl ?_
        refine pU 10 (some 22) (bm 30 2047) HT_ rfl rfl ?_
        refine pU 11 (some 23) (bm 30 4095) HT_ rfl rfl ?_
        refine pU 12 (some 24) (bm 30 8191) HT_ rfl rfl ?_
        refine pV 13 (some 25) (bm 30 16383) HT_ rfl rfl ?_
        refine pV 14 (some 26) (bm 30 32767) HT_ rfl rfl ?_
        refine pV 15 (some 27) (bm 30 65535) HT_ rfl rfl ?_
        refine pV 16 (some 28) (bm 30 131071) HT_ rfl rfl ?_
        refine pV 17 (some 29) (bm 30 262143) HT_ rfl rfl ?_
        refine pV 18 (some 30) (bm 30 524287) HT_ rfl rfl ?_
        refine pV 19 (some 31) (bm 30 1048575) HT_ rfl rfl ?_
        refine pV 20 (some 32) (bm 30 2097151) HT_ rfl rfl ?_
        refine pV 21 (some 33) (bm 30 4194303) HT_ rfl rfl ?_
        refine pU 22 (some 34) (bm 30 8388607) HT_ rfl rfl ?_
        refine pU 23 (some 35) (bm 30 16777215) HT_ rfl rfl ?_
        refine pU 24 (some 36) (bm 30 33554431) HT_ rfl rfl ?_
        refine pU 25 (some 37) (bm 30 67108863) HT_ rfl rfl ?_
        refine tU 26 (some 38) (bm 30 134217727) HT_ HW_ rfl rfl hHeld ?_
        refine one_ (i := 27) (N := some 39) (bm 30 268435455) rfl rfl (one_of HT_.out (by kernel_rfl)) (by decide) (fun K hK => ?_)
        refine goes_ Try.func28 (by kernel_rfl) rfl #[.int .i64 ((rd_T43 l0 x7_1).f1), .int .i64 0, .int .i64 9] (by rfl) rfl rfl zG ?_
        with_reducible refine (impl_InRange.calls ((rd_T43 l0 x7_1).f1) 0 9 true _ A32.out).mono ?_
        rintro e w' ⟨rfl, ⟨nd, rfl⟩⟩
        refine ⟨_, rfl, ?_⟩
        refine hK.out _ _ ⟨bc0 BK103, bc1 BK103, bc2 BK103⟩ (fun hHeld => ?_)
        clear hK K
        refine norm_ (a' := ?_) ?_ ?_
        rotate_left
        ·show Act.put _ (some 39) _ = _
         simp only [Act.put, List.setIfInBounds_toArray, List.set_cons_zero, List.set_cons_succ, i64_w, i32_w]
         rfl
        refine pU 28 (some 40) (bm 30 536870911) HT_ rfl rfl ?_
        refine pU 29 (some 41) (bm 30 1073741823) HT_ rfl rfl ?_
        refine done_ (done_of HT_.out (by kernel_rfl)) ?_
        try clear hHeld
        try go_wp2
        go_roundg k1
        case measure => have := HK1.out; omega
        case rel => exact ⟨(wrap64 (x7_1 + 1)), zF, H', ⟨by have := HK1.out; omega⟩, ⟨zB HB⟩⟩
       ·replace c33 := Bool.eq_false_iff.mpr c33
        subst c33
        have H1 : (some false) = some r := by rw [if_neg (show ¬ (false = true) by decide)] at H; exact H
        clear H
        have H := H1
        clear H1
        obtain rfl := Option.some.inj H
        have p102 : 0 ≤ (x7_1 : Int) := zD
        have q102 : x7_1 < (l0.length : Int) := zD
        obtain ⟨ad102, e102, hx102_0, hx102_1, hx102_2⟩ := at_T43 HR0.out x7_1 p102 q102
        cases e102
        replace hx102_0 := hL HB hx102_0
        replace hx102_1 := hL HB hx102_1
        replace hx102_2 := hL HB hx102_2
        replace p102 := eq_true p102
        replace q102 := eq_true q102
        try go_wp2_with (first | ((with_reducible refine gate_dst (N := 4) rfl ?_); refine box_event ?hg (N := 4) ?hd (cs := #[.int .i64 0, .int .i64 0, .bool false]) (t := 43) ?hr ?_; (case hd => rfl); (case hg => rfl); (case hr => first | (go_simp; done) | (go_simp; rfl)); intro gb103 hg w38 hbox hb; have BK103 := Aside0.mk (hbox); have GW103 := gS HB hg; have GE103 := gS HB hg; replace HB := bS HB hb; clear hb hbox hg; have hcz39_0 := bc0 BK103; have hcz39_1 := bc1 BK103; have hcz39_2 := bc2 BK103; have hfz39_0 := bf BK103 0; have hfz39_1 := bf BK103 1; have hfz39_2 := bf BK103 2))
        have n0_ : Aside0 ((((w38.setCell ⟨gb103, 0, none⟩ (.int .i64 ((rd_T43 l0 x7_1).f0))).setCell ⟨gb103, 1, none⟩ (.int .i64 ((rd_T43 l0 x7_1).f1))).setCell ⟨gb103, 2, none⟩ (.bool ((rd_T43 l0 x7_1).f2))).heap[gb103]? = some (.cells #[.int .i64 ((rd_T43 l0 x7_1).f0), .int .i64 ((rd_T43 l0 x7_1).f1), .bool ((rd_T43 l0 x7_1).f2)] 43 (0, 0))) := ⟨by (with_reducible repeat (first | refine blk_drewN ?_ _ | refine blk_drew ?_ | refine blk_alloc ?_ _)); refine blk_put (cs := #[.int .i64 ((rd_T43 l0 x7_1).f0), .int .i64 ((rd_T43 l0 x7_1).f1), .bool false]) ?_ 2 _ rfl; (with_reducible repeat (first | refine blk_drewN ?_ _ | refine blk_drew ?_ | refine blk_alloc ?_ _)); refine blk_put (cs := #[.int .i64 ((rd_T43 l0 x7_1).f0), .int .i64 0, .bool false]) ?_ 1 _ rfl; (with_reducible repeat (first | refine blk_drewN ?_ _ | refine blk_drew ?_ | refine blk_alloc ?_ _)); refine blk_put (cs := #[.int .i64 0, .int .i64 0, .bool false]) ?_ 0 _ rfl; (with_reducible repeat (first | refine blk_drewN ?_ _ | refine blk_drew ?_ | refine blk_alloc ?_ _)); exact BK103.out⟩
        have n1_ : Aside0 (Below w.heap.size w (((w38.setCell ⟨gb103, 0, none⟩ (.int .i64 ((rd_T43 l0 x7_1).f0))).setCell ⟨gb103, 1, none⟩ (.int .i64 ((rd_T43 l0 x7_1).f1))).setCell ⟨gb103, 2, none⟩ (.bool ((rd_T43 l0 x7_1).f2)))) := ⟨zB HB⟩
        (try clear BK103)
        (try clear HB)
        generalize (((w38.setCell ⟨gb103, 0, none⟩ (.int .i64 ((rd_T43 l0 x7_1).f0))).setCell ⟨gb103, 1, none⟩ (.int .i64 ((rd_T43 l0 x7_1).f1))).setCell ⟨gb103, 2, none⟩ (.bool ((rd_T43 l0 x7_1).f2))) = w40 at n0_ n1_ ⊢
        have BK103 := n0_
        have HB := n1_
        clear n0_ n1_
        replace BK103 := Aside0.mk (blk_drew BK103.out)
        replace HB := Aside0.mk (below_drew1 HB.out)
        refine start_ (n := 30) (S := fun w' => w'.cell? ⟨gb103, 0, none⟩ = some (.int .i64 ((rd_T43 l0 x7_1).f0)) ∧ w'.cell? ⟨gb103, 1, none⟩ = some (.int .i64 ((rd_T43 l0 x7_1).f1)) ∧ w'.cell? ⟨gb103, 2, none⟩ = some (.bool ((rd_T43 l0 x7_1).f2))) (ds := []) (bm 30 0) (by kernel_rfl) rfl (bm0 _) ⟨bc0 BK103, bc1 BK103, bc2 BK103⟩ (fun hHeld => ?_); refine with_tabW impl_IsRegistry.tab4 impl_IsRegistry.bits4 (fun HT_ HW_ => ?_)
        generalize w40.drew = w41 at BK103 HB hHeld ⊢
        refine pU 0 (some 12) (bm 30 1) HT_ rfl rfl ?_
        refine tU 1 (some 13) (bm 30 3) HT_ HW_ rfl rfl hHeld ?_
        refine one_ (i := 2) (N := some 14) (bm 30 7) rfl rfl (one_of HT_.out (by kernel_rfl)) (by decide) (fun K hK => ?_)
        refine goes_ Try.func28 (by kernel_rfl) rfl #[.int .i64 ((rd_T43 l0 x7_1).f0), .int .i64 0, .int .i64 255] (by rfl) rfl rfl zG ?_
        with_reducible refine (impl_InRange.calls ((rd_T43 l0 x7_1).f0) 0 255 true _ A5.out).mono ?_
        rintro e w' ⟨rfl, ⟨nd, rfl⟩⟩
        refine ⟨_, rfl, ?_⟩
        refine hK.out _ _ ⟨bc0 BK103, bc1 BK103, bc2 BK103⟩ (fun hHeld => ?_)
        clear hK K
        refine norm_ (a' := ?_) ?_ ?_
        rotate_left
        ·show Act.put _ (some 14) _ = _
         simp only [Act.put, List.setIfInBounds_toArray, List.set_cons_zero, List.set_cons_succ, i64_w, i32_w]
         rfl
        refine pU 3 (some 15) (bm 30 15) HT_ rfl rfl ?_
        refine pU 4 (some 16) (bm 30 31) HT_ rfl rfl ?_
        refine pU 5 (some 17) (bm 30 63) HT_ rfl rfl ?_
        refine tU 6 (some 18) (bm 30 127) HT_ HW_ rfl rfl hHeld ?_
        refine one_ (i := 7) (N := some 19) (bm 30 255) rfl rfl (one_of HT_.out (by kernel_rfl)) (by decide) (fun K hK => ?_)
        refine goes_ Try.func16 (by kernel_rfl) rfl #[.int .i64 ((rd_T43 l0 x7_1).f0)] (by rfl) rfl rfl zG ?_
        with_reducible refine (impl_IsReserved.calls ((rd_T43 l0 x7_1).f0) false _ A7.out).mono ?_
        rintro e w' ⟨rfl, ⟨nd, rfl⟩⟩
        refine ⟨_, rfl, ?_⟩
        refine hK.out _ _ ⟨bc0 BK103, bc1 BK103, bc2 BK103⟩ (fun hHeld => ?_)
        clear hK K
        refine norm_ (a' := ?_) ?_ ?_
        rotate_left
        ·show Act.put _ (some 19) _ = _
         simp only [Act.put, List.setIfInBounds_toArray, List.set_cons_zero, List.set_cons_succ, i64_w, i32_w]
         rfl
        refine pU 8 (some 20) (bm 30 511) HT_ rfl rfl ?_
        refine pU 9 (some 21) (bm 30 1023) HT_ rfl rfl ?_
        refine pU 10 (some 22) (bm 30 2047) HT_ rfl rfl ?_
        refine pU 11 (some 23) (bm 30 4095) HT_ rfl rfl ?_
        refine pU 12 (some 24) (bm 30 8191) HT_ rfl rfl ?_
        refine pV 13 (some 25) (bm 30 16383) HT_ rfl rfl ?_
        refine pV 14 (some 26) (bm 30 32767) HT_ rfl rfl ?_
        refine pV 15 (some 27) (bm 30 65535) HT_ rfl rfl ?_
        refine pV 16 (some 28) (bm 30 131071) HT_ rfl rfl ?_
        refine pV 17 (some 29) (bm 30 262143) HT_ rfl rfl ?_
        refine pV 18 (some 30) (bm 30 524287) HT_ rfl rfl ?_
        refine pV 19 (some 31) (bm 30 1048575) HT_ rfl rfl ?_
        refine pV 20 (some 32) (bm 30 2097151) HT_ rfl rfl ?_
        refine pV 21 (some 33) (bm 30 4194303) HT_ rfl rfl ?_
        refine pU 22 (some 34) (bm 30 8388607) HT_ rfl rfl ?_
        refine pU 23 (some 35) (bm 30 16777215) HT_ rfl rfl ?_
        refine pU 24 (some 36) (bm 30 33554431) HT_ rfl rfl ?_
        refine pU 25 (some 37) (bm 30 67108863) HT_ rfl rfl ?_
        refine tU 26 (some 38) (bm 30 134217727) HT_ HW_ rfl rfl hHeld ?_
        refine one_ (i := 27) (N := some 39) (bm 30 268435455) rfl rfl (one_of HT_.out (by kernel_rfl)) (by decide) (fun K hK => ?_)
        refine goes_ Try.func28 (by kernel_rfl) rfl #[.int .i64 ((rd_T43 l0 x7_1).f1), .int .i64 0, .int .i64 9] (by rfl) rfl rfl zG ?_
        with_reducible refine (impl_InRange.calls ((rd_T43 l0 x7_1).f1) 0 9 false _ A32.out).mono ?_
        rintro e w' ⟨rfl, ⟨nd, rfl⟩⟩
        refine ⟨_, rfl, ?_⟩
        refine hK.out _ _ ⟨bc0 BK103, bc1 BK103, bc2 BK103⟩ (fun hHeld => ?_)
        clear hK K
        refine norm_ (a' := ?_) ?_ ?_
        rotate_left
        ·show Act.put _ (some 39) _ = _
         simp only [Act.put, List.setIfInBounds_toArray, List.set_cons_zero, List.set_cons_succ, i64_w, i32_w]
         rfl
        refine pU 28 (some 40) (bm 30 536870911) HT_ rfl rfl ?_
        refine pU 29 (some 41) (bm 30 1073741823) HT_ rfl rfl ?_
        refine done_ (done_of HT_.out (by kernel_rfl)) ?_
        try clear hHeld
        try go_wp2
        go_ret
        exact ⟨zE, zB HB⟩
    ·replace c6 := Bool.eq_false_iff.mpr c6
     subst c6
     have H1 : (some false) = some r := by rw [if_neg (show ¬ (false = true) by decide)] at H; exact H
     clear H
     have H := H1
     clear H1
     obtain rfl := Option.some.inj H
     have p102 : 0 ≤ (x7_1 : Int) := zD
     have q102 : x7_1 < (l0.length : Int) := zD
     obtain ⟨ad102, e102, hx102_0, hx102_1, hx102_2⟩ := at_T43 HR0.out x7_1 p102 q102
     cases e102
     replace hx102_0 := hL HB hx102_0
     replace hx102_1 := hL HB hx102_1
     replace hx102_2 := hL HB hx102_2
     replace p102 := eq_true p102
     replace q102 := eq_true q102
     try go_wp2_with (first | ((with_reducible refine gate_dst (N := 4) rfl ?_); refine box_event ?hg (N := 4) ?hd (cs := #[.int .i64 0, .int .i64 0, .bool false]) (t := 43) ?hr ?_; (case hd => rfl); (case hg => rfl); (case hr => first | (go_simp; done) | (go_simp; rfl)); intro gb103 hg w42 hbox hb; have BK103 := Aside0.mk (hbox); have GW103 := gS HB hg; have GE103 := gS HB hg; replace HB := bS HB hb; clear hb hbox hg; have hcz43_0 := bc0 BK103; have hcz43_1 := bc1 BK103; have hcz43_2 := bc2 BK103; have hfz43_0 := bf BK103 0; have hfz43_1 := bf BK103 1; have hfz43_2 := bf BK103 2))
     have n0_ : Aside0 ((((w42.setCell ⟨gb103, 0, none⟩ (.int .i64 ((rd_T43 l0 x7_1).f0))).setCell ⟨gb103, 1, none⟩ (.int .i64 ((rd_T43 l0 x7_1).f1))).setCell ⟨gb103, 2, none⟩ (.bool ((rd_T43 l0 x7_1).f2))).heap[gb103]? = some (.cells #[.int .i64 ((rd_T43 l0 x7_1).f0), .int .i64 ((rd_T43 l0 x7_1).f1), .bool ((rd_T43 l0 x7_1).f2)] 43 (0, 0))) := ⟨by (with_reducible repeat (first | refine blk_drewN ?_ _ | refine blk_drew ?_ | refine blk_alloc ?_ _)); refine blk_put (cs := #[.int .i64 ((rd_T43 l0 x7_1).f0), .int .i64 ((rd_T43 l0 x7_1).f1), .bool false]) ?_ 2 _ rfl; (with_reducible repeat (first | refine blk_drewN ?_ _ | refine blk_drew ?_ | refine blk_alloc ?_ _)); refine blk_put (cs := #[.int .i64 ((rd_T43 l0 x7_1).f0), .int .i64 0, .bool false]) ?_ 1 _ rfl; (with_reducible repeat (first | refine blk_drewN ?_ _ | refine blk_drew ?_ | refine blk_alloc ?_ _)); refine blk_put (cs := #[.int .i64 0, .int .i64 0, .bool false]) ?_ 0 _ rfl; (with_reducible repeat (first | refine blk_drewN ?_ _ | refine blk_drew ?_ | refine blk_alloc ?_ _)); exact BK103.out⟩
     have n1_ : Aside0 (Below w.heap.size w (((w42.setCell ⟨gb103, 0, none⟩ (.int .i64 ((rd_T43 l0 x7_1).f0))).setCell ⟨gb103, 1, none⟩ (.int .i64 ((rd_T43 l0 x7_1).f1))).setCell ⟨gb103, 2, none⟩ (.bool ((rd_T43 l0 x7_1).f2)))) := ⟨zB HB⟩
     (try clear BK103)
     (try clear HB)
     generalize (((w42.setCell ⟨gb103, 0, none⟩ (.int .i64 ((rd_T43 l0 x7_1).f0))).setCell ⟨gb103, 1, none⟩ (.int .i64 ((rd_T43 l0 x7_1).f1))).setCell ⟨gb103, 2, none⟩ (.bool ((rd_T43 l0 x7_1).f2))) = w44 at n0_ n1_ ⊢
     have BK103 := n0_
     have HB := n1_
     clear n0_ n1_
     replace BK103 := Aside0.mk (blk_drew BK103.out)
     replace HB := Aside0.mk (below_drew1 HB.out)
     refine start_ (n := 30) (S := fun w' => w'.cell? ⟨gb103, 0, none⟩ = some (.int .i64 ((rd_T43 l0 x7_1).f0)) ∧ w'.cell? ⟨gb103, 1, none⟩ = some (.int .i64 ((rd_T43 l0 x7_1).f1)) ∧ w'.cell? ⟨gb103, 2, none⟩ = some (.bool ((rd_T43 l0 x7_1).f2))) (ds := []) (bm 30 0) (by kernel_rfl) rfl (bm0 _) ⟨bc0 BK103, bc1 BK103, bc2 BK103⟩ (fun hHeld => ?_); refine with_tabW impl_IsRegistry.tab4 impl_IsRegistry.bits4 (fun HT_ HW_ => ?_)
     generalize w44.drew = w45 at BK103 HB hHeld ⊢
     refine pU 0 (some 12) (bm 30 1) HT_ rfl rfl ?_
     refine tU 1 (some 13) (bm 30 3) HT_ HW_ rfl rfl hHeld ?_
     refine one_ (i := 2) (N := some 14) (bm 30 7) rfl rfl (one_of HT_.out (by kernel_rfl)) (by decide) (fun K hK => ?_)
     refine goes_ Try.func28 (by kernel_rfl) rfl #[.int .i64 ((rd_T43 l0 x7_1).f0), .int .i64 0, .int .i64 255] (by rfl) rfl rfl zG ?_
     with_reducible refine (impl_InRange.calls ((rd_T43 l0 x7_1).f0) 0 255 false _ A5.out).mono ?_
     rintro e w' ⟨rfl, ⟨nd, rfl⟩⟩
     refine ⟨_, rfl, ?_⟩
     refine hK.out _ _ ⟨bc0 BK103, bc1 BK103, bc2 BK103⟩ (fun hHeld => ?_)
     clear hK K
     refine norm_ (a' := ?_) ?_ ?_
     rotate_left
     ·show Act.put _ (some 14) _ = _
      simp only [Act.put, List.setIfInBounds_toArray, List.set_cons_zero, List.set_cons_succ, i64_w, i32_w]
      rfl
     refine pU 3 (some 15) (bm 30 15) HT_ rfl rfl ?_
     refine pU 4 (some 16) (bm 30 31) HT_ rfl rfl ?_
     refine pV 5 (some 17) (bm 30 63) HT_ rfl rfl ?_
     refine pV 6 (some 18) (bm 30 127) HT_ rfl rfl ?_
     refine pV 7 (some 19) (bm 30 255) HT_ rfl rfl ?_
     refine pU 8 (some 20) (bm 30 511) HT_ rfl rfl ?_
     refine pU 9 (some 21) (bm 30 1023) HT_ rfl rfl ?_
     refine pV 10 (some 22) (bm 30 2047) HT_ rfl rfl ?_
     refine pV 11 (some 23) (bm 30 4095) HT_ rfl rfl ?_
     refine pV 12 (some 24) (bm 30 8191) HT_ rfl rfl ?_
     refine pV 13 (some 25) (bm 30 16383) HT_ rfl rfl ?_
     refine pV 14 (some 26) (bm 30 32767) HT_ rfl rfl ?_
     refine pV 15 (some 27) (bm 30 65535) HT_ rfl rfl ?_
     refine pV 16 (some 28) (bm 30 131071) HT_ rfl rfl ?_
     refine pV 17 (some 29) (bm 30 262143) HT_ rfl rfl ?_
     refine pV 18 (some 30) (bm 30 524287) HT_ rfl rfl ?_
     refine pV 19 (some 31) (bm 30 1048575) HT_ rfl rfl ?_
     refine pV 20 (some 32) (bm 30 2097151) HT_ rfl rfl ?_
     refine pV 21 (some 33) (bm 30 4194303) HT_ rfl rfl ?_
     refine pV 22 (some 34) (bm 30 8388607) HT_ rfl rfl ?_
     refine pU 23 (some 35) (bm 30 16777215) HT_ rfl rfl ?_
     refine pU 24 (some 36) (bm 30 33554431) HT_ rfl rfl ?_
     refine pV 25 (some 37) (bm 30 67108863) HT_ rfl rfl ?_
     refine pV 26 (some 38) (bm 30 134217727) HT_ rfl rfl ?_
     refine pV 27 (some 39) (bm 30 268435455) HT_ rfl rfl ?_
     refine pV 28 (some 40) (bm 30 536870911) HT_ rfl rfl ?_
     refine pU 29 (some 41) (bm 30 1073741823) HT_ rfl rfl ?_
     refine done_ (done_of HT_.out (by kernel_rfl)) ?_
     try clear hHeld
     try go_wp2
     go_ret
     exact ⟨zE, zB HB⟩
   ·rw [if_neg c2] at H
    have c2b0 : decide (x7_1 < (l0.length : Int)) = false := decide_eq_false c2
    clear c2
    obtain rfl := Option.some.inj H
    go_wp2
    go_ret
    exact ⟨zE, zB HB⟩

-- NOT PRINTED: function 36 (impl_Entry_36)

end Go.Proofs.Ytgbfbdeeaogigaa.PFnRegistry
