-- WRITTEN by pp.py, this session's own wrapper around the print; not trusted: Lean checks it
import Derived.Test.YtgbfbdeeaogigaaPFnExactAssignTagx0
import Derived.Test.YtgbfbdeeaogigaaPFnExactAssignTagx3
namespace Go.Proofs.Ytgbfbdeeaogigaa.PFnExactAssignTag
open Go.RowKit Go.Proofs.Ytgbfbdeeaogigaa.Hw Go.Proofs.YtgbfbdeeaogigaaW.PrintWords Go.Proofs.YtgbfbdeeaogigaaW.PrintLast Go.Proofs.YtgbfbdeeaogigaaW.PrintMore
attribute [local go_sem] max2_int min2_int max_two min_two max_three min_three max_four min_four   -- for this text's walks alone
set_option linter.unusedVariables false
set_option linter.unusedSimpArgs false
set_option linter.unusedSectionVars false

/-! ### impl_IsRegistry: function 14 -/
def impl_IsRegistry.l0 : Nat → List (S43) → List (S43) → Int → Int → Option (Bool)
 | 0, _, _, _, _ => none
 | k + 1, x0, x5, x6, x7 => if x7 < x6 then (if 0 ≤ x7 then (if x7 < (x5.length : Int) then ((impl_InRange.f ((rd_T43 x5 x7).f0) 0 255).bind fun t177 => (if t177 = true then ((impl_IsReserved.f ((rd_T43 x5 x7).f0)).bind fun t178 => (if t178 = true then (some false) else (if x7 > 0 then (if 0 ≤ (wrap64 (x7 - 1)) then (if (wrap64 (x7 - 1)) < (x0.length : Int) then (if ((rd_T43 x0 (wrap64 (x7 - 1))).f0) ≥ ((rd_T43 x5 x7).f0) then (some false) else ((impl_InRange.f ((rd_T43 x5 x7).f1) 0 9).bind fun t180 => (if t180 = true then (impl_IsRegistry.l0 k x0 x5 x6 (wrap64 (x7 + 1))) else (some false)))) else (none)) else (none)) else ((impl_InRange.f ((rd_T43 x5 x7).f1) 0 9).bind fun t181 => (if t181 = true then (impl_IsRegistry.l0 k x0 x5 x6 (wrap64 (x7 + 1))) else (some false)))))) else (some false))) else (none)) else (none)) else (some (decide ((x0.length : Int) ≤ 12)))
def impl_IsRegistry.f (k : Nat) (l0 : List (S43)) : Option (Bool) := impl_IsRegistry.l0 k l0 l0 (l0.length : Int) 0
theorem impl_IsRegistry.mono_l : ∀ k, (∀ y0 y1 y2 y3, LeO (impl_IsRegistry.l0 k y0 y1 y2 y3) (impl_IsRegistry.l0 (k + 1) y0 y1 y2 y3))
 | 0 => fun _ _ _ _ r h => by simp [impl_IsRegistry.l0] at h
 | k + 1 => by
  have ih0 := impl_IsRegistry.mono_l k
  ·intro y0 y1 y2 y3
   unfold impl_IsRegistry.l0
   repeat' first
   | (with_reducible exact ih0 _ _ _ _)
   | (with_reducible exact LeO.refl _)
   | (with_reducible exact LeO.none _)
   | (with_reducible refine LeO.ite ?_ ?_)
   | (with_reducible refine LeO.bind ?_ (fun _ => ?_))
   | exact ih0 _ _ _ _
   | exact LeO.none _
   | refine LeO.ite ?_ ?_
   | refine LeO.bind ?_ (fun _ => ?_)
theorem impl_IsRegistry.mono : ∀ a0 k, LeO (impl_IsRegistry.f k a0) (impl_IsRegistry.f (k + 1) a0) := by
 intro a0 k
 have ih0 := impl_IsRegistry.mono_l k
 unfold impl_IsRegistry.f
 repeat' first
   | (with_reducible exact ih0 _ _ _ _)
   | (with_reducible exact LeO.refl _)
   | (with_reducible exact LeO.none _)
   | (with_reducible refine LeO.ite ?_ ?_)
   | (with_reducible refine LeO.bind ?_ (fun _ => ?_))
   | exact ih0 _ _ _ _
   | exact LeO.none _
   | refine LeO.ite ?_ ?_
   | refine LeO.bind ?_ (fun _ => ?_)
def impl_IsRegistry.T4 : Bool × List (List Nat × List Nat) := (true, [([], []), ([0], [0]), ([1], [1]), ([2], [2]), ([3, 2], [3]), ([4], [4]), ([5, 4], [4, 5]), ([6, 4, 4], [4, 6]), ([4, 7], [4, 7]), ([8, 7], [8]), ([9], [9]), ([10, 9], [9, 10]), ([11, 9, 9], [9, 11]), ([12], [12]), ([12], [12]), ([14, 12], [12, 14]), ([13, 15, 12], [12, 13, 15]), ([16, 12], [12, 16]), ([17, 12], [12, 17]), ([12], [12]), ([19, 12], [12, 19]), ([18, 20, 12], [12, 18, 20]), ([12, 21, 9], [9, 12, 21]), ([9, 22], [9, 22]), ([23, 12], [23]), ([24], [24]), ([25, 24], [24, 25]), ([26, 24, 24], [24, 26]), ([27, 24], [24, 27]), ([24, 28], [24, 28])])
def impl_IsRegistry.B4 : List Nat := [0, 1, 3, 7, 15, 31, 63, 127, 255, 511, 1023, 2047, 4095, 8191, 8191, 24575, 65535, 131071, 262143, 8191, 532479, 2097151, 4194303, 8388607, 16777215, 33554431, 67108863, 134217727, 268435455, 536870911]
theorem impl_IsRegistry.tab4 : rtab .any (opsOf Try.f14 4) = impl_IsRegistry.T4 := by kernel_rfl
theorem impl_IsRegistry.bits4 : waitsOk impl_IsRegistry.T4.2 impl_IsRegistry.B4 = true := by kernel_rfl
set_option maxHeartbeats 8000000 in
set_option maxRecDepth 100000 in
theorem impl_IsRegistry.calls (k : Nat) (A0 : Option Addr) (c0 : Nat) (l0 : List (S43)) (r : Bool) (w : World) (hr0 : Kd.C k43 w A0 l0.length l0) (hc0 : l0.length ≤ c0) (h : impl_IsRegistry.f k l0 = some r) :
  Calls Try.prog 14 #[.slice A0 l0.length c0] w fun e w' => e = .returned (.bool r) ∧ Below w.heap.size w w' := by
 have hu43 := Try.underlying43
 have HR0 := Aside0.mk hr0
 have HC0 := Aside0.mk hc0
 clear hr0 hc0
 have HB := Aside0.mk (Below.refl w.heap.size w)
 have H : (impl_IsRegistry.l0 k l0 l0 (l0.length : Int) 0) = some r := h
 clear h
 have H' := Aside0.mk H
 clear H
 go_enter Try.func14, Try.ntmps14
 go_wp2
 go_loopg [7] k (fun kq v7 w' => ∃ (x7_1 : Int), v7 = .int .i64 x7_1 ∧ Aside0 (impl_IsRegistry.l0 kq l0 l0 (l0.length : Int) x7_1 = some r) ∧ Aside0 (kq ≤ k) ∧ Aside0 (Below w.heap.size w w'))
 case atStart => exact ⟨(0), zF, H', ⟨Nat.le_refl _⟩, ⟨zB HB⟩⟩
 case round =>
  clear H'
  try clear c1
  obtain ⟨x7_1, rfl, HA, HK1, HB⟩ := hrel
  cases gk with
  | zero => exact absurd HA.out (by simp [impl_IsRegistry.l0])
  | succ k1 =>
   have H := HA.out
   clear HA
   simp only [impl_IsRegistry.l0] at H
   by_cases c2 : x7_1 < (l0.length : Int)
   ·rw [if_pos c2] at H
    have c2b0 : decide (x7_1 < (l0.length : Int)) = true := decide_eq_true c2
    clear c2
    obtain ⟨c3, H⟩ := ifS H
    have c3b0 : decide (0 ≤ x7_1) = true := decide_eq_true c3
    clear c3
    obtain ⟨c4, H⟩ := ifS H
    have c4b0 : decide (x7_1 < (l0.length : Int)) = true := decide_eq_true c4
    clear c4
    obtain ⟨t177, A5, H⟩ := bindS H
    by_cases c6 : t177 = true
    ·subst c6
     have H1 : ((impl_IsReserved.f ((rd_T43 l0 x7_1).f0)).bind fun t178 => (if t178 = true then (some false) else (if x7_1 > 0 then (if 0 ≤ (wrap64 (x7_1 - 1)) then (if (wrap64 (x7_1 - 1)) < (l0.length : Int) then (if ((rd_T43 l0 (wrap64 (x7_1 - 1))).f0) ≥ ((rd_T43 l0 x7_1).f0) then (some false) else ((impl_InRange.f ((rd_T43 l0 x7_1).f1) 0 9).bind fun t180 => (if t180 = true then (impl_IsRegistry.l0 k1 l0 l0 (l0.length : Int) (wrap64 (x7_1 + 1))) else (some false)))) else (none)) else (none)) else ((impl_InRange.f ((rd_T43 l0 x7_1).f1) 0 9).bind fun t181 => (if t181 = true then (impl_IsRegistry.l0 k1 l0 l0 (l0.length : Int) (wrap64 (x7_1 + 1))) else (some false)))))) = some r := by rw [if_pos rfl] at H; exact H
     clear H
     have H := H1
     clear H1
     obtain ⟨t178, A7, H⟩ := bindS H
     by_cases c8 : t178 = true
     ·subst c8
      have H1 : (some false) = some r := by rw [if_pos rfl] at H; exact H
      clear H
      have H := H1
      clear H1
      obtain rfl := Option.some.inj H
      have p175 : 0 ≤ (x7_1 : Int) := zD
      have q175 : x7_1 < (l0.length : Int) := zD
      obtain ⟨ad175, e175, hx175_0, hx175_1, hx175_2⟩ := at_T43 HR0.out x7_1 p175 q175
      cases e175
      replace hx175_0 := hL HB hx175_0
      replace hx175_1 := hL HB hx175_1
      replace hx175_2 := hL HB hx175_2
      replace p175 := eq_true p175
      replace q175 := eq_true q175
      try go_wp2_with (first | ((with_reducible refine gate_dst (N := 4) rfl ?_); refine box_event ?hg (N := 4) ?hd (cs := #[.int .i64 0, .int .i64 0, .bool false]) (t := 43) ?hr ?_; (case hd => rfl); (case hg => rfl); (case hr => first | (go_simp; done) | (go_simp; rfl)); intro gb176 hg w9 hbox hb; have BK176 := Aside0.mk (hbox); have GW176 := gS HB hg; have GE176 := gS HB hg; replace HB := bS HB hb; clear hb hbox hg; have hcz10_0 := bc0 BK176; have hcz10_1 := bc1 BK176; have hcz10_2 := bc2 BK176; have hfz10_0 := bf BK176 0; have hfz10_1 := bf BK176 1; have hfz10_2 := bf BK176 2))
      have n0_ : Aside0 ((((w9.setCell ⟨gb176, 0, none⟩ (.int .i64 ((rd_T43 l0 x7_1).f0))).setCell ⟨gb176, 1, none⟩ (.int .i64 ((rd_T43 l0 x7_1).f1))).setCell ⟨gb176, 2, none⟩ (.bool ((rd_T43 l0 x7_1).f2))).heap[gb176]? = some (.cells #[.int .i64 ((rd_T43 l0 x7_1).f0), .int .i64 ((rd_T43 l0 x7_1).f1), .bool ((rd_T43 l0 x7_1).f2)] 43 (0, 0))) := ⟨by (with_reducible repeat (first | refine blk_drewN ?_ _ | refine blk_drew ?_ | refine blk_alloc ?_ _)); refine blk_put (cs := #[.int .i64 ((rd_T43 l0 x7_1).f0), .int .i64 ((rd_T43 l0 x7_1).f1), .bool false]) ?_ 2 _ rfl; (with_reducible repeat (first | refine blk_drewN ?_ _ | refine blk_drew ?_ | refine blk_alloc ?_ _)); refine blk_put (cs := #[.int .i64 ((rd_T43 l0 x7_1).f0), .int .i64 0, .bool false]) ?_ 1 _ rfl; (with_reducible repeat (first | refine blk_drewN ?_ _ | refine blk_drew ?_ | refine blk_alloc ?_ _)); refine blk_put (cs := #[.int .i64 0, .int .i64 0, .bool false]) ?_ 0 _ rfl; (with_reducible repeat (first | refine blk_drewN ?_ _ | refine blk_drew ?_ | refine blk_alloc ?_ _)); exact BK176.out⟩
      have n1_ : Aside0 (Below w.heap.size w (((w9.setCell ⟨gb176, 0, none⟩ (.int .i64 ((rd_T43 l0 x7_1).f0))).setCell ⟨gb176, 1, none⟩ (.int .i64 ((rd_T43 l0 x7_1).f1))).setCell ⟨gb176, 2, none⟩ (.bool ((rd_T43 l0 x7_1).f2)))) := ⟨zB HB⟩
      (try clear BK176)
      (try clear HB)
      generalize (((w9.setCell ⟨gb176, 0, none⟩ (.int .i64 ((rd_T43 l0 x7_1).f0))).setCell ⟨gb176, 1, none⟩ (.int .i64 ((rd_T43 l0 x7_1).f1))).setCell ⟨gb176, 2, none⟩ (.bool ((rd_T43 l0 x7_1).f2))) = w11 at n0_ n1_ ⊢
      have BK176 := n0_
      have HB := n1_
      clear n0_ n1_
      replace BK176 := Aside0.mk (blk_drew BK176.out)
      replace HB := Aside0.mk (below_drew1 HB.out)
      refine start_ (n := 30) (S := fun w' => w'.cell? ⟨gb176, 0, none⟩ = some (.int .i64 ((rd_T43 l0 x7_1).f0)) ∧ w'.cell? ⟨gb176, 1, none⟩ = some (.int .i64 ((rd_T43 l0 x7_1).f1)) ∧ w'.cell? ⟨gb176, 2, none⟩ = some (.bool ((rd_T43 l0 x7_1).f2))) (ds := []) (bm 30 0) (by kernel_rfl) rfl (bm0 _) ⟨bc0 BK176, bc1 BK176, bc2 BK176⟩ (fun hHeld => ?_); refine with_tabW impl_IsRegistry.tab4 impl_IsRegistry.bits4 (fun HT_ HW_ => ?_)
      generalize w11.drew = w12 at BK176 HB hHeld ⊢
      refine pU 0 (some 12) (bm 30 1) HT_ rfl rfl ?_
      refine tU 1 (some 13) (bm 30 3) HT_ HW_ rfl rfl hHeld ?_
      refine one_ (i := 2) (N := some 14) (bm 30 7) rfl rfl (one_of HT_.out (by kernel_rfl)) (by decide) (fun K hK => ?_)
      refine goes_ Try.func28 (by kernel_rfl) rfl #[.int .i64 ((rd_T43 l0 x7_1).f0), .int .i64 0, .int .i64 255] (by rfl) rfl rfl zG ?_
      with_reducible refine (impl_InRange.calls ((rd_T43 l0 x7_1).f0) 0 255 true _ A5.out).mono ?_
      rintro e w' ⟨rfl, ⟨nd, rfl⟩⟩
      refine ⟨_, rfl, ?_⟩
      refine hK.out _ _ ⟨bc0 BK176, bc1 BK176, bc2 BK176⟩ (fun hHeld => ?_)
      clear hK K
      refine norm_ (a' := ?_) ?_ ?_
      rotate_left
      ·show Act.put _ (some 14) _ = _
       simp only [Act.put, List.setIfInBounds_toArray, List.set_cons_zero, List.set_cons_succ, i64_w, i32_w]
       rfl
      refine pU 3 (some 15) (bm 30 15) HT_ rfl rfl ?_
      refine pU 4 (some 16) (bm 30 31) HT_ rfl rfl ?_
      refine pU 5 (some 17) (bm 30 63) HT_ rfl rfl ?_
      refine tU 6 (some 18) (bm 30 127) HT_ HW_ rfl rfl hHeld ?_
      refine one_ (i := 7) (N := some 19) (bm 30 255) rfl rfl (one_of HT_.out (by kernel_rfl)) (by decide) (fun K hK => ?_)
      refine goes_ Try.func16 (by kernel_rfl) rfl #[.int .i64 ((rd_T43 l0 x7_1).f0)] (by rfl) rfl rfl zG ?_
      with_reducible refine (impl_IsReserved.calls ((rd_T43 l0 x7_1).f0) true _ A7.out).mono ?_
      rintro e w' ⟨rfl, ⟨nd, rfl⟩⟩
      refine ⟨_, rfl, ?_⟩
      refine hK.out _ _ ⟨bc0 BK176, bc1 BK176, bc2 BK176⟩ (fun hHeld => ?_)
      clear hK K
      refine norm_ (a' := ?_) ?_ ?_
      rotate_left
      ·show Act.put _ (some 19) _ = _
       simp only [Act.put, List.setIfInBounds_toArray, List.set_cons_zero, List.set_cons_succ, i64_w, i32_w]
       rfl
      refine pU 8 (some 20) (bm 30 511) HT_ rfl rfl ?_
      refine pU 9 (some 21) (bm 30 1023) HT_ rfl rfl ?_
      refine pV 10 (some 22) (bm 30 2047) HT_ rfl rfl ?_
      refine pV 11 (some 23) (bm 30 4095) HT_ rfl rfl ?_
      refine pV 12 (some 24) (bm 30 8191) HT_ rfl rfl ?_
      refine pV 13 (some 25) (bm 30 16383) HT_ rfl rfl ?_
      refine pV 14 (some 26) (bm 30 32767) HT_ rfl rfl ?_
      refine pV 15 (some 27) (bm 30 65535) HT_ rfl rfl ?_
      refine pV 16 (some 28) (bm 30 131071) HT_ rfl rfl ?_
      refine pV 17 (some 29) (bm 30 262143) HT_ rfl rfl ?_
      refine pV 18 (some 30) (bm 30 524287) HT_ rfl rfl ?_
      refine pV 19 (some 31) (bm 30 1048575) HT_ rfl rfl ?_
      refine pV 20 (some 32) (bm 30 2097151) HT_ rfl rfl ?_
      refine pV 21 (some 33) (bm 30 4194303) HT_ rfl rfl ?_
      refine pV 22 (some 34) (bm 30 8388607) HT_ rfl rfl ?_
      refine pU 23 (some 35) (bm 30 16777215) HT_ rfl rfl ?_
      refine pU 24 (some 36) (bm 30 33554431) HT_ rfl rfl ?_
      refine pV 25 (some 37) (bm 30 67108863) HT_ rfl rfl ?_
      refine pV 26 (some 38) (bm 30 134217727) HT_ rfl rfl ?_
      refine pV 27 (some 39) (bm 30 268435455) HT_ rfl rfl ?_
      refine pV 28 (some 40) (bm 30 536870911) HT_ rfl rfl ?_
      refine pU 29 (some 41) (bm 30 1073741823) HT_ rfl rfl ?_
      refine done_ (done_of HT_.out (by kernel_rfl)) ?_
      try clear hHeld
      try go_wp2
      go_ret
      exact ⟨zE, zB HB⟩
     ·replace c8 := Bool.eq_false_iff.mpr c8
      subst c8
      have H1 : (if x7_1 > 0 then (if 0 ≤ (wrap64 (x7_1 - 1)) then (if (wrap64 (x7_1 - 1)) < (l0.length : Int) then (if ((rd_T43 l0 (wrap64 (x7_1 - 1))).f0) ≥ ((rd_T43 l0 x7_1).f0) then (some false) else ((impl_InRange.f ((rd_T43 l0 x7_1).f1) 0 9).bind fun t180 => (if t180 = true then (impl_IsRegistry.l0 k1 l0 l0 (l0.length : Int) (wrap64 (x7_1 + 1))) else (some false)))) else (none)) else (none)) else ((impl_InRange.f ((rd_T43 l0 x7_1).f1) 0 9).bind fun t181 => (if t181 = true then (impl_IsRegistry.l0 k1 l0 l0 (l0.length : Int) (wrap64 (x7_1 + 1))) else (some false)))) = some r := by rw [if_neg (show ¬ (false = true) by decide)] at H; exact H
      clear H
      have H := H1
      clear H1
      by_cases c13 : x7_1 > 0
      ·rw [if_pos c13] at H
       have c13b0 : decide (0 < x7_1) = true := decide_eq_true c13
       clear c13
       obtain ⟨ji14, hji14⟩ : ∃ j_ : Int, (wrap64 (x7_1 - 1)) = j_ := ⟨_, rfl⟩
       replace H : (if 0 ≤ (ji14) then (if (ji14) < (l0.length : Int) then (if ((rd_T43 l0 (ji14)).f0) ≥ ((rd_T43 l0 x7_1).f0) then (some false) else ((impl_InRange.f ((rd_T43 l0 x7_1).f1) 0 9).bind fun t180 => (if t180 = true then (impl_IsRegistry.l0 k1 l0 l0 (l0.length : Int) (wrap64 (x7_1 + 1))) else (some false)))) else (none)) else (none)) = some r := by first | (rw [hji14] at H; exact H) | (simp only [hji14] at H ⊢; exact H)
       (try rw [hji14] at A5)
       (try rw [hji14] at A7)
       have hji14w : (IntKind.i64.wrap (x7_1 - 1)) = ji14 := (i64_w _).trans hji14
       obtain ⟨c15, H⟩ := ifS H
       have c15b0 : decide (0 ≤ (ji14)) = true := decide_eq_true c15
       clear c15
       obtain ⟨c16, H⟩ := ifS H
       have c16b0 : decide ((ji14) < (l0.length : Int)) = true := decide_eq_true c16
       clear c16
       by_cases c17 : ((rd_T43 l0 (ji14)).f0) ≥ ((rd_T43 l0 x7_1).f0)
       ·rw [if_pos c17] at H
        have c17b0 : decide (((rd_T43 l0 x7_1).f0) ≤ ((rd_T43 l0 (ji14)).f0)) = true := decide_eq_true c17
        clear c17
        obtain rfl := Option.some.inj H
        have p175 : 0 ≤ (x7_1 : Int) := zD
        have q175 : x7_1 < (l0.length : Int) := zD
        obtain ⟨ad175, e175, hx175_0, hx175_1, hx175_2⟩ := at_T43 HR0.out x7_1 p175 q175
        cases e175
        replace hx175_0 := hL HB hx175_0
        replace hx175_1 := hL HB hx175_1
        replace hx175_2 := hL HB hx175_2
        replace p175 := eq_true p175
        replace q175 := eq_true q175
        try go_wp2_with (first | ((with_reducible refine gate_dst (N := 4) rfl ?_); refine box_event ?hg (N := 4) ?hd (cs := #[.int .i64 0, .int .i64 0, .bool false]) (t := 43) ?hr ?_; (case hd => rfl); (case hg => rfl); (case hr => first | (go_simp; done) | (go_simp; rfl)); intro gb176 hg w18 hbox hb; have BK176 := Aside0.mk (hbox); have GW176 := gS HB hg; have GE176 := gS HB hg; replace HB := bS HB hb; clear hb hbox hg; have hcz19_0 := bc0 BK176; have hcz19_1 := bc1 BK176; have hcz19_2 := bc2 BK176; have hfz19_0 := bf BK176 0; have hfz19_1 := bf BK176 1; have hfz19_2 := bf BK176 2))
        have n0_ : Aside0 ((((w18.setCell ⟨gb176, 0, none⟩ (.int .i64 ((rd_T43 l0 x7_1).f0))).setCell ⟨gb176, 1, none⟩ (.int .i64 ((rd_T43 l0 x7_1).f1))).setCell ⟨gb176, 2, none⟩ (.bool ((rd_T43 l0 x7_1).f2))).heap[gb176]? = some (.cells #[.int .i64 ((rd_T43 l0 x7_1).f0), .int .i64 ((rd_T43 l0 x7_1).f1), .bool ((rd_T43 l0 x7_1).f2)] 43 (0, 0))) := ⟨by (with_reducible repeat (first | refine blk_drewN ?_ _ | refine blk_drew ?_ | refine blk_alloc ?_ _)); refine blk_put (cs := #[.int .i64 ((rd_T43 l0 x7_1).f0), .int .i64 ((rd_T43 l0 x7_1).f1), .bool false]) ?_ 2 _ rfl; (with_reducible repeat (first | refine blk_drewN ?_ _ | refine blk_drew ?_ | refine blk_alloc ?_ _)); refine blk_put (cs := #[.int .i64 ((rd_T43 l0 x7_1).f0), .int .i64 0, .bool false]) ?_ 1 _ rfl; (with_reducible repeat (first | refine blk_drewN ?_ _ | refine blk_drew ?_ | refine blk_alloc ?_ _)); refine blk_put (cs := #[.int .i64 0, .int .i64 0, .bool false]) ?_ 0 _ rfl; (with_reducible repeat (first | refine blk_drewN ?_ _ | refine blk_drew ?_ | refine blk_alloc ?_ _)); exact BK176.out⟩
        have n1_ : Aside0 (Below w.heap.size w (((w18.setCell ⟨gb176, 0, none⟩ (.int .i64 ((rd_T43 l0 x7_1).f0))).setCell ⟨gb176, 1, none⟩ (.int .i64 ((rd_T43 l0 x7_1).f1))).setCell ⟨gb176, 2, none⟩ (.bool ((rd_T43 l0 x7_1).f2)))) := ⟨zB HB⟩
        (try clear BK176)
        (try clear HB)
        generalize (((w18.setCell ⟨gb176, 0, none⟩ (.int .i64 ((rd_T43 l0 x7_1).f0))).setCell ⟨gb176, 1, none⟩ (.int .i64 ((rd_T43 l0 x7_1).f1))).setCell ⟨gb176, 2, none⟩ (.bool ((rd_T43 l0 x7_1).f2))) = w20 at n0_ n1_ ⊢
        have BK176 := n0_
        have HB := n1_
        clear n0_ n1_
        replace BK176 := Aside0.mk (blk_drew BK176.out)
        replace HB := Aside0.mk (below_drew1 HB.out)
        have p179 : 0 ≤ ((ji14) : Int) := zD
        have q179 : (ji14) < (l0.length : Int) := zD
        obtain ⟨ad179, e179, hx179_0, hx179_1, hx179_2⟩ := at_T43 HR0.out (ji14) p179 q179
        have hw179_2 := hx179_2
        have hw179_1 := hx179_1
        have hw179_0 := hx179_0
        obtain rfl : ad175 = ad179 := (by injection e179)
        replace hx179_0 := hL HB hx179_0
        replace hx179_1 := hL HB hx179_1
        replace hx179_2 := hL HB hx179_2
        replace p179 := eq_true p179
        replace q179 := eq_true q179
        refine start_ (n := 30) (S := fun w' => w'.cell? ⟨gb176, 0, none⟩ = some (.int .i64 ((rd_T43 l0 x7_1).f0)) ∧ w'.cell? ⟨gb176, 1, none⟩ = some (.int .i64 ((rd_T43 l0 x7_1).f1)) ∧ w'.cell? ⟨gb176, 2, none⟩ = some (.bool ((rd_T43 l0 x7_1).f2)) ∧ w'.cell? (ad175.add (((ji14)).toNat * 3)) = some (.int .i64 ((rd_T43 l0 (ji14)).f0)) ∧ w'.cell? ⟨(ad175.add (((ji14)).toNat * 3)).block, (ad175.add (((ji14)).toNat * 3)).off + 1, none⟩ = some (.int .i64 ((rd_T43 l0 (ji14)).f1)) ∧ w'.cell? ⟨(ad175.add (((ji14)).toNat * 3)).block, (ad175.add (((ji14)).toNat * 3)).off + 2, none⟩ = some (.bool ((rd_T43 l0 (ji14)).f2))) (ds := []) (bm 30 0) (by kernel_rfl) rfl (bm0 _) ⟨bc0 BK176, bc1 BK176, bc2 BK176, (hL HB hw179_0), (hL HB hw179_1), (hL HB hw179_2)⟩ (fun hHeld => ?_); refine with_tabW impl_IsRegistry.tab4 impl_IsRegistry.bits4 (fun HT_ HW_ => ?_)
        generalize w20.drew = w21 at BK176 HB hx179_0 hx179_1 hx179_2 hHeld ⊢
        refine pU 0 (some 12) (bm 30 1) HT_ rfl rfl ?_
        refine tU 1 (some 13) (bm 30 3) HT_ HW_ rfl rfl hHeld ?_
        refine one_ (i := 2) (N := some 14) (bm 30 7) rfl rfl (one_of HT_.out (by kernel_rfl)) (by decide) (fun K hK => ?_)
        refine goes_ Try.func28 (by kernel_rfl) rfl #[.int .i64 ((rd_T43 l0 x7_1).f0), .int .i64 0, .int .i64 255] (by rfl) rfl rfl zG ?_
        with_reducible refine (impl_InRange.calls ((rd_T43 l0 x7_1).f0) 0 255 true _ A5.out).mono ?_
        rintro e w' ⟨rfl, ⟨nd, rfl⟩⟩
        refine ⟨_, rfl, ?_⟩
        refine hK.out _ _ ⟨bc0 BK176, bc1 BK176, bc2 BK176, (hL HB hw179_0), (hL HB hw179_1), (hL HB hw179_2)⟩ (fun hHeld => ?_)
        clear hK K
        refine norm_ (a' := ?_) ?_ ?_
        rotate_left
        ·show Act.put _ (some 14) _ = _
         simp only [Act.put, List.setIfInBounds_toArray, List.set_cons_zero, List.set_cons_succ, i64_w, i32_w]
         rfl
        refine pU 3 (some 15) (bm 30 15) HT_ rfl rfl ?_
        refine pU 4 (some 16) (bm 30 31) HT_ rfl rfl ?_
        refine pU 5 (some 17) (bm 30 63) HT_ rfl rfl ?_
        refine tU 6 (some 18) (bm 30 127) HT_ HW_ rfl rfl hHeld ?_
        refine one_ (i := 7) (N := some 19) (bm 30 255) rfl rfl (one_of HT_.out (by kernel_rfl)) (by decide) (fun K hK => ?_)
        refine goes_ Try.func16 (by kernel_rfl) rfl #[.int .i64 ((rd_T43 l0 x7_1).f0)] (by rfl) rfl rfl zG ?_
        with_reducible refine (impl_IsReserved.calls ((rd_T43 l0 x7_1).f0) false _ A7.out).mono ?_
        rintro e w' ⟨rfl, ⟨nd, rfl⟩⟩
        refine ⟨_, rfl, ?_⟩
        refine hK.out _ _ ⟨bc0 BK176, bc1 BK176, bc2 BK176, (hL HB hw179_0), (hL HB hw179_1), (hL HB hw179_2)⟩ (fun hHeld => ?_)
        clear hK K
        refine norm_ (a' := ?_) ?_ ?_
        rotate_left
        ·show Act.put _ (some 19) _ = _
         simp only [Act.put, List.setIfInBounds_toArray, List.set_cons_zero, List.set_cons_succ, i64_w, i32_w]
         rfl
        refine pU 8 (some 20) (bm 30 511) HT_ rfl rfl ?_
        refine pU 9 (some 21) (bm 30 1023) HT_ rfl rfl ?_
        refine pU 10 (some 22) (bm 30 2047) HT_ rfl rfl ?_
        refine pU 11 (some 23) (bm 30 4095) HT_ rfl rfl ?_
        refine pU 12 (some 24) (bm 30 8191) HT_ rfl rfl ?_
        refine pU 13 (some 25) (bm 30 16383) HT_ rfl rfl ?_
        refine pU 14 (some 26) (bm 30 32767) HT_ rfl rfl ?_
        refine pU 15 (some 27) (bm 30 65535) HT_ rfl rfl ?_
        refine pU 16 (some 28) (bm 30 131071) HT_ rfl rfl ?_
        refine pU 17 (some 29) (bm 30 262143) HT_ rfl rfl ?_
        refine pU 19 (some 31) (bm 30 786431) HT_ rfl rfl ?_
        refine tU 18 (some 30) (bm 30 1048575) HT_ HW_ rfl rfl hHeld ?_
        refine tU 20 (some 32) (bm 30 2097151) HT_ HW_ rfl rfl hHeld ?_
        refine pU 21 (some 33) (bm 30 4194303) HT_ rfl rfl ?_
        refine pU 22 (some 34) (bm 30 8388607) HT_ rfl rfl ?_
        refine pU 23 (some 35) (bm 30 16777215) HT_ rfl rfl ?_
        refine pU 24 (some 36) (bm 30 33554431) HT_ rfl rfl ?_
        refine pV 25 (some 37) (bm 30 67108863) HT_ rfl rfl ?_
        refine pV 26 (some 38) (bm 30 134217727) HT_ rfl rfl ?_
        refine pV 27 (some 39) (bm 30 268435455) HT_ rfl rfl ?_
        refine pV 28 (some 40) (bm 30 536870911) HT_ rfl rfl ?_
        refine pU 29 (some 41) (bm 30 1073741823) HT_ rfl rfl ?_
        refine done_ (done_of HT_.out (by kernel_rfl)) ?_
        try clear hHeld
        try go_wp2
        go_ret
        exact ⟨by first | rfl | (simp [errW_none, errW_some] <;> rfl) | (simp only [← hji14]; first | rfl | (simp [errW_none, errW_some] <;> rfl)) | (simp [*, errW_none, errW_some] <;> rfl), zB HB⟩
       ·rw [if_neg c17] at H
        have c17b0 : decide (((rd_T43 l0 x7_1).f0) ≤ ((rd_T43 l0 (ji14)).f0)) = false := decide_eq_false c17
        clear c17
        obtain ⟨t180, A22, H⟩ := bindS H
        by_cases c23 : t180 = true
        ·subst c23
         have H1 : (impl_IsRegistry.l0 k1 l0 l0 (l0.length : Int) (wrap64 (x7_1 + 1))) = some r := by rw [if_pos rfl] at H; exact H
         clear H
         have H := H1
         clear H1
         have H' := Aside0.mk H
         clear H
         have p175 : 0 ≤ (x7_1 : Int) := zD
         have q175 : x7_1 < (l0.length : Int) := zD
         obtain ⟨ad175, e175, hx175_0, hx175_1, hx175_2⟩ := at_T43 HR0.out x7_1 p175 q175
         cases e175
         replace hx175_0 := hL HB hx175_0
         replace hx175_1 := hL HB hx175_1
         replace hx175_2 := hL HB hx175_2
         replace p175 := eq_true p175
         replace q175 := eq_true q175
         try go_wp2_with (first | ((with_reducible refine gate_dst (N := 4) rfl ?_); refine box_event ?hg (N := 4) ?hd (cs := #[.int .i64 0, .int .i64 0, .bool false]) (t := 43) ?hr ?_; (case hd => rfl); (case hg => rfl); (case hr => first | (go_simp; done) | (go_simp; rfl)); intro gb176 hg w24 hbox hb; have BK176 := Aside0.mk (hbox); have GW176 := gS HB hg; have GE176 := gS HB hg; replace HB := bS HB hb; clear hb hbox hg; have hcz25_0 := bc0 BK176; have hcz25_1 := bc1 BK176; have hcz25_2 := bc2 BK176; have hfz25_0 := bf BK176 0; have hfz25_1 := bf BK176 1; have hfz25_2 := bf BK176 2))
         have n0_ : Aside0 ((((w24.setCell ⟨gb176, 0, none⟩ (.int .i64 ((rd_T43 l0 x7_1).f0))).setCell ⟨gb176, 1, none⟩ (.int .i64 ((rd_T43 l0 x7_1).f1))).setCell ⟨gb176, 2, none⟩ (.bool ((rd_T43 l0 x7_1).f2))).heap[gb176]? = some (.cells #[.int .i64 ((rd_T43 l0 x7_1).f0), .int .i64 ((rd_T43 l0 x7_1).f1), .bool ((rd_T43 l0 x7_1).f2)] 43 (0, 0))) := ⟨by (with_reducible repeat (first | refine blk_drewN ?_ _ | refine blk_drew ?_ | refine blk_alloc ?_ _)); refine blk_put (cs := #[.int .i64 ((rd_T43 l0 x7_1).f0), .int .i64 ((rd_T43 l0 x7_1).f1), .bool false]) ?_ 2 _ rfl; (with_reducible repeat (first | refine blk_drewN ?_ _ | refine blk_drew ?_ | refine blk_alloc ?_ _)); refine blk_put (cs := #[.int .i64 ((rd_T43 l0 x7_1).f0), .int .i64 0, .bool false]) ?_ 1 _ rfl; (with_reducible repeat (first | refine blk_drewN ?_ _ | refine blk_drew ?_ | refine blk_alloc ?_ _)); refine blk_put (cs := #[.int .i64 0, .int .i64 0, .bool false]) ?_ 0 _ rfl; (with_reducible repeat (first | refine blk_drewN ?_ _ | refine blk_drew ?_ | refine blk_alloc ?_ _)); exact BK176.out⟩
         have n1_ : Aside0 (Below w.heap.size w (((w24.setCell ⟨gb176, 0, none⟩ (.int .i64 ((rd_T43 l0 x7_1).f0))).setCell ⟨gb176, 1, none⟩ (.int .i64 ((rd_T43 l0 x7_1).f1))).setCell ⟨gb176, 2, none⟩ (.bool ((rd_T43 l0 x7_1).f2)))) := ⟨zB HB⟩
         (try clear BK176)
         (try clear HB)
         generalize (((w24.setCell ⟨gb176, 0, none⟩ (.int .i64 ((rd_T43 l0 x7_1).f0))).setCell ⟨gb176, 1, none⟩ (.int .i64 ((rd_T43 l0 x7_1).f1))).setCell ⟨gb176, 2, none⟩ (.bool ((rd_T43 l0 x7_1).f2))) = w26 at n0_ n1_ ⊢
         have BK176 := n0_
         have HB := n1_
         clear n0_ n1_
         replace BK176 := Aside0.mk (blk_drew BK176.out)
         replace HB := Aside0.mk (below_drew1 HB.out)
         have p179 : 0 ≤ ((ji14) : Int) := zD
         have q179 : (ji14) < (l0.length : Int) := zD
         obtain ⟨ad179, e179, hx179_0, hx179_1, hx179_2⟩ := at_T43 HR0.out (ji14) p179 q179
         have hw179_2 := hx179_2
         have hw179_1 := hx179_1
         have hw179_0 := hx179_0
         obtain rfl : ad175 = ad179 := (by injection e179)
         replace hx179_0 := hL HB hx179_0
         replace hx179_1 := hL HB hx179_1
         replace hx179_2 := hL HB hx179_2
         replace p179 := eq_true p179
         replace q179 := eq_true q179
         refine start_ (n := 30) (S := fun w' => w'.cell? ⟨gb176, 0, none⟩ = some (.int .i64 ((rd_T43 l0 x7_1).f0)) ∧ w'.cell? ⟨gb176, 1, none⟩ = some (.int .i64 ((rd_T43 l0 x7_1).f1)) ∧ w'.cell? ⟨gb176, 2, none⟩ = some (.bool ((rd_T43 l0 x7_1).f2)) ∧ w'.cell? (ad175.add (((ji14)).toNat * 3)) = some (.int .i64 ((rd_T43 l0 (ji14)).f0)) ∧ w'.cell? ⟨(ad175.add (((ji14)).toNat * 3)).block, (ad175.add (((ji14)).toNat * 3)).off + 1, none⟩ = some (.int .i64 ((rd_T43 l0 (ji14)).f1)) ∧ w'.cell? ⟨(ad175.add (((ji14)).toNat * 3)).block, (ad175.add (((ji14)).toNat * 3)).off + 2, none⟩ = some (.bool ((rd_T43 l0 (ji14)).f2))) (ds := []) (bm 30 0) (by kernel_rfl) rfl (bm0 _) ⟨bc0 BK176, bc1 BK176, bc2 BK176, (hL HB hw179_0), (hL HB hw179_1), (hL HB hw179_2)⟩ (fun hHeld => ?_); refine with_tabW impl_IsRegistry.tab4 impl_IsRegistry.bits4 (fun HT_ HW_ => ?_)
         generalize w26.drew = w27 at BK176 HB hx179_0 hx179_1 hx179_2 hHeld ⊢
         refine pU 0 (some 12) (bm 30 1) HT_ rfl rfl ?_
         refine tU 1 (some 13) (bm 30 3) HT_ HW_ rfl rfl hHeld ?_
         refine one_ (i := 2) (N := some 14) (bm 30 7) rfl rfl (one_of HT_.out (by kernel_rfl)) (by decide) (fun K hK => ?_)
         refine goes_ Try.func28 (by kernel_rfl) rfl #[.int .i64 ((rd_T43 l0 x7_1).f0), .int .i64 0, .int .i64 255] (by rfl) rfl rfl zG ?_
         with_reducible refine (impl_InRange.calls ((rd_T43 l0 x7_1).f0) 0 255 true _ A5.out).mono ?_
         rintro e w' ⟨rfl, ⟨nd, rfl⟩⟩
         refine ⟨_, rfl, ?_⟩
         refine hK.out _ _ ⟨bc0 BK176, bc1 BK176, bc2 BK176, (hL HB hw179_0), (hL HB hw179_1), (hL HB hw179_2)⟩ (fun hHeld => ?_)
         clear hK K
         refine norm_ (a' := ?_) ?_ ?_
         rotate_left
         ·show Act.put _ (some 14) _ = _
          simp only [Act.put, List.setIfInBounds_toArray, List.set_cons_zero, List.set_cons_succ, i64_w, i32_w]
          rfl
         refine pU 3 (some 15) (bm 30 15) HT_ rfl rfl ?_
         refine pU 4 (some 16) (bm 30 31) HT_ rfl rfl ?_
         refine pU 5 (some 17) (bm 30 63) HT_ rfl rfl ?_
         refine tU 6 (some 18) (bm 30 127) HT_ HW_ rfl rfl hHeld ?_
         refine one_ (i := 7) (N := some 19) (bm 30 255) rfl rfl (one_of HT_.out (by kernel_rfl)) (by decide) (fun K hK => ?_)
         refine goes_ Try.func16 (by kernel_rfl) rfl #[.int .i64 ((rd_T43 l0 x7_1).f0)] (by rfl) rfl rfl zG ?_
         with_reducible refine (impl_IsReserved.calls ((rd_T43 l0 x7_1).f0) false _ A7.out).mono ?_
         rintro e w' ⟨rfl, ⟨nd, rfl⟩⟩
         refine ⟨_, rfl, ?_⟩
         refine hK.out _ _ ⟨bc0 BK176, bc1 BK176, bc2 BK176, (hL HB hw179_0), (hL HB hw179_1), (hL HB hw179_2)⟩ (fun hHeld => ?_)
         clear hK K
         refine norm_ (a' := ?_) ?_ ?_
         rotate_left
         ·show Act.put _ (some 19) _ = _
          simp only [Act.put, List.setIfInBounds_toArray, List.set_cons_zero, List.set_cons_succ, i64_w, i32_w]
          rfl
         refine pU 8 (some 20) (bm 30 511) HT_ rfl rfl ?_
         refine pU 9 (some 21) (bm 30 1023) HT_ rfl rfl ?_
         refine pU 10 (some 22) (bm 30 2047) HT_ rfl rfl ?_
         refine pU 11 (some 23) (bm 30 4095) HT_ rfl rfl ?_
         refine pU 12 (some 24) (bm 30 8191) HT_ rfl rfl ?_
         refine pU 13 (some 25) (bm 30 16383) HT_ rfl rfl ?_
         refine pU 14 (some 26) (bm 30 32767) HT_ rfl rfl ?_
         refine pU 15 (some 27) (bm 30 65535) HT_ rfl rfl ?_
         refine pU 16 (some 28) (bm 30 131071) HT_ rfl rfl ?_
         refine pU 17 (some 29) (bm 30 262143) HT_ rfl rfl ?_
         refine pU 19 (some 31) (bm 30 786431) HT_ rfl rfl ?_
         refine tU 18 (some 30) (bm 30 1048575) HT_ HW_ rfl rfl hHeld ?_
         refine tU 20 (some 32) (bm 30 2097151) HT_ HW_ rfl rfl hHeld ?_
         refine pU 21 (some 33) (bm 30 4194303) HT_ rfl rfl ?_
         refine pU 22 (some 34) (bm 30 8388607) HT_ rfl rfl ?_
         refine pU 23 (some 35) (bm 30 16777215) HT_ rfl rfl ?_
         refine pU 24 (some 36) (bm 30 33554431) HT_ rfl rfl ?_
         refine pU 25 (some 37) (bm 30 67108863) HT_ rfl rfl ?_
         refine tU 26 (some 38) (bm 30 134217727) HT_ HW_ rfl rfl hHeld ?_
         refine one_ (i := 27) (N := some 39) (bm 30 268435455) rfl rfl (one_of HT_.out (by kernel_rfl)) (by decide) (fun K hK => ?_)
         refine goes_ Try.func28 (by kernel_rfl) rfl #[.int .i64 ((rd_T43 l0 x7_1).f1), .int .i64 0, .int .i64 9] (by rfl) rfl rfl zG ?_
         with_reducible refine (impl_InRange.calls ((rd_T43 l0 x7_1).f1) 0 9 true _ A22.out).mono ?_
         rintro e w' ⟨rfl, ⟨nd, rfl⟩⟩
         refine ⟨_, rfl, ?_⟩
         refine hK.out _ _ ⟨bc0 BK176, bc1 BK176, bc2 BK176, (hL HB hw179_0), (hL HB hw179_1), (hL HB hw179_2)⟩ (fun hHeld => ?_)
         clear hK K
         refine norm_ (a' := ?_) ?_ ?_
         rotate_left
         ·show Act.put _ (some 39) _ = _
          simp only [Act.put, List.setIfInBounds_toArray, List.set_cons_zero, List.set_cons_succ, i64_w, i32_w]
          rfl
         refine pU 28 (some 40) (bm 30 536870911) HT_ rfl rfl ?_
         refine pU 29 (some 41) (bm 30 1073741823) HT_ rfl rfl ?_
         refine done_ (done_of HT_.out (by kernel_rfl)) ?_
         try clear hHeld
         try go_wp2
         go_roundg k1
         case measure => have := HK1.out; omega
         case rel => exact ⟨(wrap64 (x7_1 + 1)), zF, H', ⟨by have := HK1.out; omega⟩, ⟨zB HB⟩⟩
        ·replace c23 := Bool.eq_false_iff.mpr c23
         subst c23
         have H1 : (some false) = some r := by rw [if_neg (show ¬ (false = true) by decide)] at H; exact H
         clear H
         have H := H1
         clear H1
         obtain rfl := Option.some.inj H
         have p175 : 0 ≤ (x7_1 : Int) := zD
         have q175 : x7_1 < (l0.length : Int) := zD
         obtain ⟨ad175, e175, hx175_0, hx175_1, hx175_2⟩ := at_T43 HR0.out x7_1 p175 q175
         cases e175
         replace hx175_0 := hL HB hx175_0
         replace hx175_1 := hL HB hx175_1
         replace hx175_2 := hL HB hx175_2
         replace p175 := eq_true p175
         replace q175 := eq_true q175
         try go_wp2_with (first | ((with_reducible refine gate_dst (N := 4) rfl ?_); refine box_event ?hg (N := 4) ?hd (cs := #[.int .i64 0, .int .i64 0, .bool false]) (t := 43) ?hr ?_; (case hd => rfl); (case hg => rfl); (case hr => first | (go_simp; done) | (go_simp; rfl)); intro gb176 hg w28 hbox hb; have BK176 := Aside0.mk (hbox); have GW176 := gS HB hg; have GE176 := gS HB hg; replace HB := bS HB hb; clear hb hbox hg; have hcz29_0 := bc0 BK176; have hcz29_1 := bc1 BK176; have hcz29_2 := bc2 BK176; have hfz29_0 := bf BK176 0; have hfz29_1 := bf BK176 1; have hfz29_2 := bf BK176 2))
         have n0_ : Aside0 ((((w28.setCell ⟨gb176, 0, none⟩ (.int .i64 ((rd_T43 l0 x7_1).f0))).setCell ⟨gb176, 1, none⟩ (.int .i64 ((rd_T43 l0 x7_1).f1))).setCell ⟨gb176, 2, none⟩ (.bool ((rd_T43 l0 x7_1).f2))).heap[gb176]? = some (.cells #[.int .i64 ((rd_T43 l0 x7_1).f0), .int .i64 ((rd_T43 l0 x7_1).f1), .bool ((rd_T43 l0 x7_1).f2)] 43 (0, 0))) := ⟨by (with_reducible repeat (first | refine blk_drewN ?_ _ | refine blk_drew ?_ | refine blk_alloc ?_ _)); refine blk_put (cs := #[.int .i64 ((rd_T43 l0 x7_1).f0), .int .i64 ((rd_T43 l0 x7_1).f1), .bool false]) ?_ 2 _ rfl; (with_reducible repeat (first | refine blk_drewN ?_ _ | refine blk_drew ?_ | refine blk_alloc ?_ _)); refine blk_put (cs := #[.int .i64 ((rd_T43 l0 x7_1).f0), .int .i64 0, .bool false]) ?_ 1 _ rfl; (with_reducible repeat (first | refine blk_drewN ?_ _ | refine blk_drew ?_ | refine blk_alloc ?_ _)); refine blk_put (cs := #[.int .i64 0, .int .i64 0, .bool false]) ?_ 0 _ rfl; (with_reducible repeat (first | refine blk_drewN ?_ _ | refine blk_drew ?_ | refine blk_alloc ?_ _)); exact BK176.out⟩
         have n1_ : Aside0 (Below w.heap.size w (((w28.setCell ⟨gb176, 0, none⟩ (.int .i64 ((rd_T43 l0 x7_1).f0))).setCell ⟨gb176, 1, none⟩ (.int .i64 ((rd_T43 l0 x7_1).f1))).setCell ⟨gb176, 2, none⟩ (.bool ((rd_T43 l0 x7_1).f2)))) := ⟨zB HB⟩
         (try clear BK176)
         (try clear HB)
         generalize (((w28.setCell ⟨gb176, 0, none⟩ (.int .i64 ((rd_T43 l0 x7_1).f0))).setCell ⟨gb176, 1, none⟩ (.int .i64 ((rd_T43 l0 x7_1).f1))).setCell ⟨gb176, 2, none⟩ (.bool ((rd_T43 l0 x7_1).f2))) = w30 at n0_ n1_ ⊢
         have BK176 := n0_
         have HB := n1_
         clear n0_ n1_
         replace BK176 := Aside0.mk (blk_drew BK176.out)
         replace HB := Aside0.mk (below_drew1 HB.out)
         have p179 : 0 ≤ ((ji14) : Int) := zD
         have q179 : (ji14) < (l0.length : Int) := zD
         obtain ⟨ad179, e179, hx179_0, hx179_1, hx179_2⟩ := at_T43 HR0.out (ji14) p179 q179
         have hw179_2 := hx179_2
         have hw179_1 := hx179_1
         have hw179_0 := hx179_0
         obtain rfl : ad175 = ad179 := (by injection e179)
         replace hx179_0 := hL HB hx179_0
         replace hx179_1 := hL HB hx179_1
         replace hx179_2 := hL HB hx179_2
         replace p179 := eq_true p179
         replace q179 := eq_true q179
         refine start_ (n := 30) (S := fun w' => w'.cell? ⟨gb176, 0, none⟩ = some (.int .i64 ((rd_T43 l0 x7_1).f0)) ∧ w'.cell? ⟨gb176, 1, none⟩ = some (.int .i64 ((rd_T43 l0 x7_1).f1)) ∧ w'.cell? ⟨gb176, 2, none⟩ = some (.bool ((rd_T43 l0 x7_1).f2)) ∧ w'.cell? (ad175.add (((ji14)).toNat * 3)) = some (.int .i64 ((rd_T43 l0 (ji14)).f0)) ∧ w'.cell? ⟨(ad175.add (((ji14)).toNat * 3)).block, (ad175.add (((ji14)).toNat * 3)).off + 1, none⟩ = some (.int .i64 ((rd_T43 l0 (ji14)).f1)) ∧ w'.cell? ⟨(ad175.add (((ji14)).toNat * 3)).block, (ad175.add (((ji14)).toNat * 3)).off + 2, none⟩ = some (.bool ((rd_T43 l0 (ji14)).f2))) (ds := []) (bm 30 0) (by kernel_rfl) rfl (bm0 _) ⟨bc0 BK176, bc1 BK176, bc2 BK176, (hL HB hw179_0), (hL HB hw179_1), (hL HB hw179_2)⟩ (fun hHeld => ?_); refine with_tabW impl_IsRegistry.tab4 impl_IsRegistry.bits4 (fun HT_ HW_ => ?_)
         generalize w30.drew = w31 at BK176 HB hx179_0 hx179_1 hx179_2 hHeld ⊢
         refine pU 0 (some 12) (bm 30 1) HT_ rfl rfl ?_
         refine tU 1 (some 13) (bm 30 3) HT_ HW_ rfl rfl hHeld ?_
         refine one_ (i := 2) (N := some 14) (bm 30 7) rfl rfl (one_of HT_.out (by kernel_rfl)) (by decide) (fun K hK => ?_)
         refine goes_ Try.func28 (by kernel_rfl) rfl #[.int .i64 ((rd_T43 l0 x7_1).f0), .int .i64 0, .int .i64 255] (by rfl) rfl rfl zG ?_
         with_reducible refine (impl_InRange.calls ((rd_T43 l0 x7_1).f0) 0 255 true _ A5.out).mono ?_
         rintro e w' ⟨rfl, ⟨nd, rfl⟩⟩
         refine ⟨_, rfl, ?_⟩
         refine hK.out _ _ ⟨bc0 BK176, bc1 BK176, bc2 BK176, (hL HB hw179_0), (hL HB hw179_1), (hL HB hw179_2)⟩ (fun hHeld => ?_)
         clear hK K
         refine norm_ (a' := ?_) ?_ ?_
         rotate_left
         ·show Act.put _ (some 14) _ = _
          simp only [Act.put, List.setIfInBounds_toArray, List.set_cons_zero, List.set_cons_succ, i64_w, i32_w]
          rfl
         refine pU 3 (some 15) (bm 30 15) HT_ rfl rfl ?_
         refine pU 4 (some 16) (bm 30 31) HT_ rfl rfl ?_
         refine pU 5 (some 17) (bm 30 63) HT_ rfl rfl ?_
         refine tU 6 (some 18) (bm 30 127) HT_ HW_ rfl rfl hHeld ?_
         refine one_ (i := 7) (N := some 19) (bm 30 255) rfl rfl (one_of HT_.out (by kernel_rfl)) (by decide) (fun K hK => ?_)
         refine goes_ Try.func16 (by kernel_rfl) rfl #[.int .i64 ((rd_T43 l0 x7_1).f0)] (by rfl) rfl rfl zG ?_
         with_reducible refine (impl_IsReserved.calls ((rd_T43 l0 x7_1).f0) false _ A7.out).mono ?_
         rintro e w' ⟨rfl, ⟨nd, rfl⟩⟩
         refine ⟨_, rfl, ?_⟩
         refine hK.out _ _ ⟨bc0 BK176, bc1 BK176, bc2 BK176, (hL HB hw179_0), (hL HB hw179_1), (hL HB hw179_2)⟩ (fun hHeld => ?_)
         clear hK K
         refine norm_ (a' := ?_) ?_ ?_
         rotate_left
         ·show Act.put _ (some 19) _ = _
          simp only [Act.put, List.setIfInBounds_toArray, List.set_cons_zero, List.set_cons_succ, i64_w, i32_w]
          rfl
         refine pU 8 (some 20) (bm 30 511) HT_ rfl rfl ?_
         refine pU 9 (some 21) (bm 30 1023) HT_ rfl rfl ?_
         refine pU 10 (some 22) (bm 30 2047) HT_ rfl rfl ?_
         refine pU 11 (some 23) (bm 30 4095) HT_ rfl rfl ?_
         refine pU 12 (some 24) (bm 30 8191) HT_ rfl rfl ?_
         refine pU 13 (some 25) (bm 30 16383) HT_ rfl rfl ?_
         refine pU 14 (some 26) (bm 30 32767) HT_ rfl rfl ?_
         refine pU 15 (some 27) (bm 30 65535) HT_ rfl rfl ?_
         refine pU 16 (some 28) (bm 30 131071) HT_ rfl rfl ?_
         refine pU 17 (some 29) (bm 30 262143) HT_ rfl rfl ?_
         refine pU 19 (some 31) (bm 30 786431) HT_ rfl rfl ?_
         refine tU 18 (some 30) (bm 30 1048575) HT_ HW_ rfl rfl hHeld ?_
         refine tU 20 (some 32) (bm 30 2097151) HT_ HW_ rfl rfl hHeld ?_
         refine pU 21 (some 33) (bm 30 4194303) HT_ rfl rfl ?_
         refine pU 22 (some 34) (bm 30 8388607) HT_ rfl rfl ?_
         refine pU 23 (some 35) (bm 30 16777215) HT_ rfl rfl ?_
         refine pU 24 (some 36) (bm 30 33554431) HT_ rfl rfl ?_
         refine pU 25 (some 37) (bm 30 67108863) HT_ rfl rfl ?_
         refine tU 26 (some 38) (bm 30 134217727) HT_ HW_ rfl rfl hHeld ?_
         refine one_ (i := 27) (N := some 39) (bm 30 268435455) rfl rfl (one_of HT_.out (by kernel_rfl)) (by decide) (fun K hK => ?_)
         refine goes_ Try.func28 (by kernel_rfl) rfl #[.int .i64 ((rd_T43 l0 x7_1).f1), .int .i64 0, .int .i64 9] (by rfl) rfl rfl zG ?_
         with_reducible refine (impl_InRange.calls ((rd_T43 l0 x7_1).f1) 0 9 false _ A22.out).mono ?_
         rintro e w' ⟨rfl, ⟨nd, rfl⟩⟩
         refine ⟨_, rfl, ?_⟩
         refine hK.out _ _ ⟨bc0 BK176, bc1 BK176, bc2 BK176, (hL HB hw179_0), (hL HB hw179_1), (hL HB hw179_2)⟩ (fun hHeld => ?_)
         clear hK K
         refine norm_ (a' := ?_) ?_ ?_
         rotate_left
         ·show Act.put _ (some 39) _ = _
          simp only [Act.put, List.setIfInBounds_toArray, List.set_cons_zero, List.set_cons_succ, i64_w, i32_w]
          rfl
         refine pU 28 (some 40) (bm 30 536870911) HT_ rfl rfl ?_
         refine pU 29 (some 41) (bm 30 1073741823) HT_ rfl rfl ?_
         refine done_ (done_of HT_.out (by kernel_rfl)) ?_
         try clear hHeld
         try go_wp2
         go_ret
         exact ⟨by first | rfl | (simp [errW_none, errW_some] <;> rfl) | (simp only [← hji14]; first | rfl | (simp [errW_none, errW_some] <;> rfl)) | (simp [*, errW_none, errW_some] <;> rfl), zB HB⟩
      ·rw [if_neg c13] at H
       have c13b0 : decide (0 < x7_1) = false := decide_eq_false c13
       clear c13
       obtain ⟨t181, A32, H⟩ := bindS H
       by_cases c33 : t181 = true
       ·subst c33
        have H1 : (impl_IsRegistry.l0 k1 l0 l0 (l0.length : Int) (wrap64 (x7_1 + 1))) = some r := by rw [if_pos rfl] at H; exact H
        clear H
        have H := H1
        clear H1
        have H' := Aside0.mk H
        clear H
        have p175 : 0 ≤ (x7_1 : Int) := zD
        have q175 : x7_1 < (l0.length : Int) := zD
        obtain ⟨ad175, e175, hx175_0, hx175_1, hx175_2⟩ := at_T43 HR0.out x7_1 p175 q175
        cases e175
        replace hx175_0 := hL HB hx175_0
        replace hx175_1 := hL HB hx175_1
        replace hx175_2 := hL HB hx175_2
        replace p175 := eq_true p175
        replace q175 := eq_true q175
        try go_wp2_with (first | ((with_reducible refine gate_dst (N := 4) rfl ?_); refine box_event ?hg (N := 4) ?hd (cs := #[.int .i64 0, .int .i64 0, .bool false]) (t := 43) ?hr ?_; (case hd => rfl); (case hg => rfl); (case hr => first | (go_simp; done) | (go_simp; rfl)); intro gb176 hg w34 hbox hb; have BK176 := Aside0.mk (hbox); have GW176 := gS HB hg; have GE176 := gS HB hg; replace HB := bS HB hb; clear hb hbox hg; have hcz35_0 := bc0 BK176; have hcz35_1 := bc1 BK176; have hcz35_2 := bc2 BK176; have hfz35_0 := bf BK176 0; have hfz35_1 := bf BK176 1; have hfz35_2 := bf BK176 2))
        have n0_ : Aside0 ((((w34.setCell ⟨gb176, 0, none⟩ (.int .i64 ((rd_T43 l0 x7_1).f0))).setCell ⟨gb176, 1, none⟩ (.int .i64 ((rd_T43 l0 x7_1).f1))).setCell ⟨gb176, 2, none⟩ (.bool ((rd_T43 l0 x7_1).f2))).heap[gb176]? = some (.cells #[.int .i64 ((rd_T43 l0 x7_1).f0), .int .i64 ((rd_T43 l0 x7_1).f1), .bool ((rd_T43 l0 x7_1).f2)] 43 (0, 0))) := ⟨by (with_reducible repeat (first | refine blk_drewN ?_ _ | refine blk_drew ?_ | refine blk_alloc ?_ _)); refine blk_put (cs := #[.int .i64 ((rd_T43 l0 x7_1).f0), .int .i64 ((rd_T43 l0 x7_1).f1), .bool false]) ?_ 2 _ rfl; (with_reducible repeat (first | refine blk_drewN ?_ _ | refine blk_drew ?_ | refine blk_alloc ?_ _)); refine blk_put (cs := #[.int .i64 ((rd_T43 l0 x7_1).f0), .int .i64 0, .bool false]) ?_ 1 _ rfl; (with_reducible repeat (first | refine blk_drewN ?_ _ | refine blk_drew ?_ | refine blk_alloc ?_ _)); refine blk_put (cs := #[.int .i64 0, .int .i64 0, .bool false]) ?_ 0 _ rfl; (with_reducible repeat (first | refine blk_drewN ?_ _ | refine blk_drew ?_ | refine blk_alloc ?_ _)); exact BK176.out⟩
        have n1_ : Aside0 (Below w.heap.size w (((w34.setCell ⟨gb176, 0, none⟩ (.int .i64 ((rd_T43 l0 x7_1).f0))).setCell ⟨gb176, 1, none⟩ (.int .i64 ((rd_T43 l0 x7_1).f1))).setCell ⟨gb176, 2, none⟩ (.bool ((rd_T43 l0 x7_1).f2)))) := ⟨zB HB⟩
        (try clear BK176)
        (try clear HB)
        generalize (((w34.setCell ⟨gb176, 0, none⟩ (.int .i64 ((rd_T43 l0 x7_1).f0))).setCell ⟨gb176, 1, none⟩ (.int .i64 ((rd_T43 l0 x7_1).f1))).setCell ⟨gb176, 2, none⟩ (.bool ((rd_T43 l0 x7_1).f2))) = w36 at n0_ n1_ ⊢
        have BK176 := n0_
        have HB := n1_
        clear n0_ n1_
        replace BK176 := Aside0.mk (blk_drew BK176.out)
        replace HB := Aside0.mk (below_drew1 HB.out)
        refine start_ (n := 30) (S := fun w' => w'.cell? ⟨gb176, 0, none⟩ = some (.int .i64 ((rd_T43 l0 x7_1).f0)) ∧ w'.cell? ⟨gb176, 1, none⟩ = some (.int .i64 ((rd_T43 l0 x7_1).f1)) ∧ w'.cell? ⟨gb176, 2, none⟩ = some (.bool ((rd_T43 l0 x7_1).f2))) (ds := []) (bm 30 0) (by kernel_rfl) rfl (bm0 _) ⟨bc0 BK176, bc1 BK176, bc2 BK176⟩ (fun hHeld => ?_); refine with_tabW impl_IsRegistry.tab4 impl_IsRegistry.bits4 (fun HT_ HW_ => ?_)
        generalize w36.drew = w37 at BK176 HB hHeld ⊢
        refine pU 0 (some 12) (bm 30 1) HT_ rfl rfl ?_
        refine tU 1 (some 13) (bm 30 3) HT_ HW_ rfl rfl hHeld ?_
        refine one_ (i := 2) (N := some 14) (bm 30 7) rfl rfl (one_of HT_.out (by kernel_rfl)) (by decide) (fun K hK => ?_)
        refine goes_ Try.func28 (by kernel_rfl) rfl #[.int .i64 ((rd_T43 l0 x7_1).f0), .int .i64 0, .int .i64 255] (by rfl) rfl rfl zG ?_
        with_reducible refine (impl_InRange.calls ((rd_T43 l0 x7_1).f0) 0 255 true _ A5.out).mono ?_
        rintro e w' ⟨rfl, ⟨nd, rfl⟩⟩
        refine ⟨_, rfl, ?_⟩
        refine hK.out _ _ ⟨bc0 BK176, bc1 BK176, bc2 BK176⟩ (fun hHeld => ?_)
        clear hK K
        refine norm_ (a' := ?_) ?_ ?_
        rotate_left
        ·show Act.put _ (some 14) _ = _
         simp only [Act.put, List.setIfInBounds_toArray, List.set_cons_zero, List.set_cons_succ, i64_w, i32_w]
         rfl
        refine pU 3 (some 15) (bm 30 15) HT_ rfl rfl ?_
        refine pU 4 (some 16) (bm 30 31) HT_ rfl rfl ?_
        refine pU 5 (some 17) (bm 30 63) HT_ rfl rfl ?_
        refine tU 6 (some 18) (bm 30 127) HT_ HW_ rfl rfl hHeld ?_
        refine one_ (i := 7) (N := some 19) (bm 30 255) rfl rfl (one_of HT_.out (by kernel_rfl)) (by decide) (fun K hK => ?_)
        refine goes_ Try.func16 (by kernel_rfl) rfl #[.int .i64 ((rd_T43 l0 x7_1).f0)] (by rfl) rfl rfl zG ?_
        with_reducible refine (impl_IsReserved.calls ((rd_T43 l0 x7_1).f0) false _ A7.out).mono ?_
        rintro e w' ⟨rfl, ⟨nd, rfl⟩⟩
        refine ⟨_, rfl, ?_⟩
        refine hK.out _ _ ⟨bc0 BK176, bc1 BK176, bc2 BK176⟩ (fun hHeld => ?_)
        clear hK K
        refine norm_ (a' := ?_) ?_ ?_
        rotate_left
        ·show Act.put _ (some 19) _ = _
         simp only [Act.put, List.setIfInBounds_toArray, List.set_cons_zero, List.set_cons_succ, i64_w, i32_w]
         rfl
        refine pU 8 (some 20) (bm 30 511) HT_ rfl rfl ?_
        refine pU 9 (some 21) (bm 30 1023) HT_ rfl rfl ?_
        refine pU 10 (some 22) (bm 30 2047) HT_ rfl rfl ?_
        refine pU 11 (some 23) (bm 30 4095) HT_ rfl rfl ?_
        refine pU 12 (some 24) (bm 30 8191) HT_ rfl rfl ?_
        refine pV 13 (some 25) (bm 30 16383) HT_ rfl rfl ?_
        refine pV 14 (some 26) (bm 30 32767) HT_ rfl rfl ?_
        refine pV 15 (some 27) (bm 30 65535) HT_ rfl rfl ?_
        refine pV 16 (some 28) (bm 30 131071) HT_ rfl rfl ?_
        refine pV 17 (some 29) (bm 30 262143) HT_ rfl rfl ?_
        refine pV 18 (some 30) (bm 30 524287) HT_ rfl rfl ?_
        refine pV 19 (some 31) (bm 30 1048575) HT_ rfl rfl ?_
        refine pV 20 (some 32) (bm 30 2097151) HT_ rfl rfl ?_
        refine pV 21 (some 33) (bm 30 4194303) HT_ rfl rfl ?_
        refine pU 22 (some 34) (bm 30 8388607) HT_ rfl rfl ?_
        refine pU 23 (some 35) (bm 30 16777215) HT_ rfl rfl ?_
        refine pU 24 (some 36) (bm 30 33554431) HT_ rfl rfl ?_
        refine pU 25 (some 37) (bm 30 67108863) HT_ rfl rfl ?_
        refine tU 26 (some 38) (bm 30 134217727) HT_ HW_ rfl rfl hHeld ?_
        refine one_ (i := 27) (N := some 39) (bm 30 268435455) rfl rfl (one_of HT_.out (by kernel_rfl)) (by decide) (fun K hK => ?_)
        refine goes_ Try.func28 (by kernel_rfl) rfl #[.int .i64 ((rd_T43 l0 x7_1).f1), .int .i64 0, .int .i64 9] (by rfl) rfl rfl zG ?_
        with_reducible refine (impl_InRange.calls ((rd_T43 l0 x7_1).f1) 0 9 true _ A32.out).mono ?_
        rintro e w' ⟨rfl, ⟨nd, rfl⟩⟩
        refine ⟨_, rfl, ?_⟩
        refine hK.out _ _ ⟨bc0 BK176, bc1 BK176, bc2 BK176⟩ (fun hHeld => ?_)
        clear hK K
        refine norm_ (a' := ?_) ?_ ?_
        rotate_left
        ·show Act.put _ (some 39) _ = _
         simp only [Act.put, List.setIfInBounds_toArray, List.set_cons_zero, List.set_cons_succ, i64_w, i32_w]
         rfl
        refine pU 28 (some 40) (bm 30 536870911) HT_ rfl rfl ?_
        refine pU 29 (some 41) (bm 30 1073741823) HT_ rfl rfl ?_
        refine done_ (done_of HT_.out (by kernel_rfl)) ?_
        try clear hHeld
        try go_wp2
        go_roundg k1
        case measure => have := HK1.out; omega
        case rel => exact ⟨(wrap64 (x7_1 + 1)), zF, H', ⟨by have := HK1.out; omega⟩, ⟨zB HB⟩⟩
       ·replace c33 := Bool.eq_false_iff.mpr c33
        subst c33
        have H1 : (some false) = some r := by rw [if_neg (show ¬ (false = true) by decide)] at H; exact H
        clear H
        have H := H1
        clear H1
        obtain rfl := Option.some.inj H
        have p175 : 0 ≤ (x7_1 : Int) := zD
        have q175 : x7_1 < (l0.length : Int) := zD
        obtain ⟨ad175, e175, hx175_0, hx175_1, hx175_2⟩ := at_T43 HR0.out x7_1 p175 q175
        cases e175
        replace hx175_0 := hL HB hx175_0
        replace hx175_1 := hL HB hx175_1
        replace hx175_2 := hL HB hx175_2
        replace p175 := eq_true p175
        replace q175 := eq_true q175
        try go_wp2_with (first | ((with_reducible refine gate_dst (N := 4) rfl ?_); refine box_event ?hg (N := 4) ?hd (cs := #[.int .i64 0, .int .i64 0, .bool false]) (t := 43) ?hr ?_; (case hd => rfl); (case hg => rfl); (case hr => first | (go_simp; done) | (go_simp; rfl)); intro gb176 hg w38 hbox hb; have BK176 := Aside0.mk (hbox); have GW176 := gS HB hg; have GE176 := gS HB hg; replace HB := bS HB hb; clear hb hbox hg; have hcz39_0 := bc0 BK176; have hcz39_1 := bc1 BK176; have hcz39_2 := bc2 BK176; have hfz39_0 := bf BK176 0; have hfz39_1 := bf BK176 1; have hfz39_2 := bf BK176 2))
        have n0_ : Aside0 ((((w38.setCell ⟨gb176, 0, none⟩ (.int .i64 ((rd_T43 l0 x7_1).f0))).setCell ⟨gb176, 1, none⟩ (.int .i64 ((rd_T43 l0 x7_1).f1))).setCell ⟨gb176, 2, none⟩ (.bool ((rd_T43 l0 x7_1).f2))).heap[gb176]? = some (.cells #[.int .i64 ((rd_T43 l0 x7_1).f0), .int .i64 ((rd_T43 l0 x7_1).f1), .bool ((rd_T43 l0 x7_1).f2)] 43 (0, 0))) := ⟨by (with_reducible repeat (first | refine blk_drewN ?_ _ | refine blk_drew ?_ | refine blk_alloc ?_ _)); refine blk_put (cs := #[.int .i64 ((rd_T43 l0 x7_1).f0), .int .i64 ((rd_T43 l0 x7_1).f1), .bool false]) ?_ 2 _ rfl; (with_reducible repeat (first | refine blk_drewN ?_ _ | refine blk_drew ?_ | refine blk_alloc ?_ _)); refine blk_put (cs := #[.int .i64 ((rd_T43 l0 x7_1).f0), .int .i64 0, .bool false]) ?_ 1 _ rfl; (with_reducible repeat (first | refine blk_drewN ?_ _ | refine blk_drew ?_ | refine blk_alloc ?_ _)); refine blk_put (cs := #[.int .i64 0, .int .i64 0, .bool false]) ?_ 0 _ rfl; (with_reducible repeat (first | refine blk_drewN ?_ _ | refine blk_drew ?_ | refine blk_alloc ?_ _)); exact BK176.out⟩
        have n1_ : Aside0 (Below w.heap.size w (((w38.setCell ⟨gb176, 0, none⟩ (.int .i64 ((rd_T43 l0 x7_1).f0))).setCell ⟨gb176, 1, none⟩ (.int .i64 ((rd_T43 l0 x7_1).f1))).setCell ⟨gb176, 2, none⟩ (.bool ((rd_T43 l0 x7_1).f2)))) := ⟨zB HB⟩
        (try clear BK176)
        (try clear HB)
        generalize (((w38.setCell ⟨gb176, 0, none⟩ (.int .i64 ((rd_T43 l0 x7_1).f0))).setCell ⟨gb176, 1, none⟩ (.int .i64 ((rd_T43 l0 x7_1).f1))).setCell ⟨gb176, 2, none⟩ (.bool ((rd_T43 l0 x7_1).f2))) = w40 at n0_ n1_ ⊢
        have BK176 := n0_
        have HB := n1_
        clear n0_ n1_
        replace BK176 := Aside0.mk (blk_drew BK176.out)
        replace HB := Aside0.mk (below_drew1 HB.out)
        refine start_ (n := 30) (S := fun w' => w'.cell? ⟨gb176, 0, none⟩ = some (.int .i64 ((rd_T43 l0 x7_1).f0)) ∧ w'.cell? ⟨gb176, 1, none⟩ = some (.int .i64 ((rd_T43 l0 x7_1).f1)) ∧ w'.cell? ⟨gb176, 2, none⟩ = some (.bool ((rd_T43 l0 x7_1).f2))) (ds := []) (bm 30 0) (by kernel_rfl) rfl (bm0 _) ⟨bc0 BK176, bc1 BK176, bc2 BK176⟩ (fun hHeld => ?_); refine with_tabW impl_IsRegistry.tab4 impl_IsRegistry.bits4 (fun HT_ HW_ => ?_)
        generalize w40.drew = w41 at BK176 HB hHeld ⊢
        refine pU 0 (some 12) (bm 30 1) HT_ rfl rfl ?_
        refine tU 1 (some 13) (bm 30 3) HT_ HW_ rfl rfl hHeld ?_
        refine one_ (i := 2) (N := some 14) (bm 30 7) rfl rfl (one_of HT_.out (by kernel_rfl)) (by decide) (fun K hK => ?_)
        refine goes_ Try.func28 (by kernel_rfl) rfl #[.int .i64 ((rd_T43 l0 x7_1).f0), .int .i64 0, .int .i64 255] (by rfl) rfl rfl zG ?_
        with_reducible refine (impl_InRange.calls ((rd_T43 l0 x7_1).f0) 0 255 true _ A5.out).mono ?_
        rintro e w' ⟨rfl, ⟨nd, rfl⟩⟩
        refine ⟨_, rfl, ?_⟩
        refine hK.out _ _ ⟨bc0 BK176, bc1 BK176, bc2 BK176⟩ (fun hHeld => ?_)
        clear hK K
        refine norm_ (a' := ?_) ?_ ?_
        rotate_left
        ·show Act.put _ (some 14) _ = _
         simp only [Act.put, List.setIfInBounds_toArray, List.set_cons_zero, List.set_cons_succ, i64_w, i32_w]
         rfl
        refine pU 3 (some 15) (bm 30 15) HT_ rfl rfl ?_
        refine pU 4 (some 16) (bm 30 31) HT_ rfl rfl ?_
        refine pU 5 (some 17) (bm 30 63) HT_ rfl rfl ?_
        refine tU 6 (some 18) (bm 30 127) HT_ HW_ rfl rfl hHeld ?_
        refine one_ (i := 7) (N := some 19) (bm 30 255) rfl rfl (one_of HT_.out (by kernel_rfl)) (by decide) (fun K hK => ?_)
        refine goes_ Try.func16 (by kernel_rfl) rfl #[.int .i64 ((rd_T43 l0 x7_1).f0)] (by rfl) rfl rfl zG ?_
        with_reducible refine (impl_IsReserved.calls ((rd_T43 l0 x7_1).f0) false _ A7.out).mono ?_
        rintro e w' ⟨rfl, ⟨nd, rfl⟩⟩
        refine ⟨_, rfl, ?_⟩
        refine hK.out _ _ ⟨bc0 BK176, bc1 BK176, bc2 BK176⟩ (fun hHeld => ?_)
        clear hK K
        refine norm_ (a' := ?_) ?_ ?_
        rotate_left
        ·show Act.put _ (some 19) _ = _
         simp only [Act.put, List.setIfInBounds_toArray, List.set_cons_zero, List.set_cons_succ, i64_w, i32_w]
         rfl
        refine pU 8 (some 20) (bm 30 511) HT_ rfl rfl ?_
        refine pU 9 (some 21) (bm 30 1023) HT_ rfl rfl ?_
        refine pU 10 (some 22) (bm 30 2047) HT_ rfl rfl ?_
        refine pU 11 (some 23) (bm 30 4095) HT_ rfl rfl ?_
        refine pU 12 (some 24) (bm 30 8191) HT_ rfl rfl ?_
        refine pV 13 (some 25) (bm 30 16383) HT_ rfl rfl ?_
        refine pV 14 (some 26) (bm 30 32767) HT_ rfl rfl ?_
        refine pV 15 (some 27) (bm 30 65535) HT_ rfl rfl ?_
        refine pV 16 (some 28) (bm 30 131071) HT_ rfl rfl ?_
        refine pV 17 (some 29) (bm 30 262143) HT_ rfl rfl ?_
        refine pV 18 (some 30) (bm 30 524287) HT_ rfl rfl ?_
        refine pV 19 (some 31) (bm 30 1048575) HT_ rfl rfl ?_
        refine pV 20 (some 32) (bm 30 2097151) HT_ rfl rfl ?_
        refine pV 21 (some 33) (bm 30 4194303) HT_ rfl rfl ?_
        refine pU 22 (some 34) (bm 30 8388607) HT_ rfl rfl ?_
        refine pU 23 (some 35) (bm 30 16777215) HT_ rfl rfl ?_
        refine pU 24 (some 36) (bm 30 33554431) HT_ rfl rfl ?_
        refine pU 25 (some 37) (bm 30 67108863) HT_ rfl rfl ?_
        refine tU 26 (some 38) (bm 30 134217727) HT_ HW_ rfl rfl hHeld ?_
        refine one_ (i := 27) (N := some 39) (bm 30 268435455) rfl rfl (one_of HT_.out (by kernel_rfl)) (by decide) (fun K hK => ?_)
        refine goes_ Try.func28 (by kernel_rfl) rfl #[.int .i64 ((rd_T43 l0 x7_1).f1), .int .i64 0, .int .i64 9] (by rfl) rfl rfl zG ?_
        with_reducible refine (impl_InRange.calls ((rd_T43 l0 x7_1).f1) 0 9 false _ A32.out).mono ?_
        rintro e w' ⟨rfl, ⟨nd, rfl⟩⟩
        refine ⟨_, rfl, ?_⟩
        refine hK.out _ _ ⟨bc0 BK176, bc1 BK176, bc2 BK176⟩ (fun hHeld => ?_)
        clear hK K
        refine norm_ (a' := ?_) ?_ ?_
        rotate_left
        ·show Act.put _ (some 39) _ = _
         simp only [Act.put, List.setIfInBounds_toArray, List.set_cons_zero, List.set_cons_succ, i64_w, i32_w]
         rfl
        refine pU 28 (some 40) (bm 30 536870911) HT_ rfl rfl ?_
        refine pU 29 (some 41) (bm 30 1073741823) HT_ rfl rfl ?_
        refine done_ (done_of HT_.out (by kernel_rfl)) ?_
        try clear hHeld
        try go_wp2
        go_ret
        exact ⟨zE, zB HB⟩
    ·replace c6 := Bool.eq_false_iff.mpr c6
     subst c6
     have H1 : (some false) = some r := by rw [if_neg (show ¬ (false = true) by decide)] at H; exact H
     clear H
     have H := H1
     clear H1
     obtain rfl := Option.some.inj H
     have p175 : 0 ≤ (x7_1 : Int) := zD
     have q175 : x7_1 < (l0.length : Int) := zD
     obtain ⟨ad175, e175, hx175_0, hx175_1, hx175_2⟩ := at_T43 HR0.out x7_1 p175 q175
     cases e175
     replace hx175_0 := hL HB hx175_0
     replace hx175_1 := hL HB hx175_1
     replace hx175_2 := hL HB hx175_2
     replace p175 := eq_true p175
     replace q175 := eq_true q175
     try go_wp2_with (first | ((with_reducible refine gate_dst (N := 4) rfl ?_); refine box_event ?hg (N := 4) ?hd (cs := #[.int .i64 0, .int .i64 0, .bool false]) (t := 43) ?hr ?_; (case hd => rfl); (case hg => rfl); (case hr => first | (go_simp; done) | (go_simp; rfl)); intro gb176 hg w42 hbox hb; have BK176 := Aside0.mk (hbox); have GW176 := gS HB hg; have GE176 := gS HB hg; replace HB := bS HB hb; clear hb hbox hg; have hcz43_0 := bc0 BK176; have hcz43_1 := bc1 BK176; have hcz43_2 := bc2 BK176; have hfz43_0 := bf BK176 0; have hfz43_1 := bf BK176 1; have hfz43_2 := bf BK176 2))
     have n0_ : Aside0 ((((w42.setCell ⟨gb176, 0, none⟩ (.int .i64 ((rd_T43 l0 x7_1).f0))).setCell ⟨gb176, 1, none⟩ (.int .i64 ((rd_T43 l0 x7_1).f1))).setCell ⟨gb176, 2, none⟩ (.bool ((rd_T43 l0 x7_1).f2))).heap[gb176]? = some (.cells #[.int .i64 ((rd_T43 l0 x7_1).f0), .int .i64 ((rd_T43 l0 x7_1).f1), .bool ((rd_T43 l0 x7_1).f2)] 43 (0, 0))) := ⟨by (with_reducible repeat (first | refine blk_drewN ?_ _ | refine blk_drew ?_ | refine blk_alloc ?_ _)); refine blk_put (cs := #[.int .i64 ((rd_T43 l0 x7_1).f0), .int .i64 ((rd_T43 l0 x7_1).f1), .bool false]) ?_ 2 _ rfl; (with_reducible repeat (first | refine blk_drewN ?_ _ | refine blk_drew ?_ | refine blk_alloc ?_ _)); refine blk_put (cs := #[.int .i64 ((rd_T43 l0 x7_1).f0), .int .i64 0, .bool false]) ?_ 1 _ rfl; (with_reducible repeat (first | refine blk_drewN ?_ _ | refine blk_drew ?_ | refine blk_alloc ?_ _)); refine blk_put (cs := #[.int .i64 0, .int .i64 0, .bool false]) ?_ 0 _ rfl; (with_reducible repeat (first | refine blk_drewN ?_ _ | refine blk_drew ?_ | refine blk_alloc ?_ _)); exact BK176.out⟩
     have n1_ : Aside0 (Below w.heap.size w (((w42.setCell ⟨gb176, 0, none⟩ (.int .i64 ((rd_T43 l0 x7_1).f0))).setCell ⟨gb176, 1, none⟩ (.int .i64 ((rd_T43 l0 x7_1).f1))).setCell ⟨gb176, 2, none⟩ (.bool ((rd_T43 l0 x7_1).f2)))) := ⟨zB HB⟩
     (try clear BK176)
     (try clear HB)
     generalize (((w42.setCell ⟨gb176, 0, none⟩ (.int .i64 ((rd_T43 l0 x7_1).f0))).setCell ⟨gb176, 1, none⟩ (.int .i64 ((rd_T43 l0 x7_1).f1))).setCell ⟨gb176, 2, none⟩ (.bool ((rd_T43 l0 x7_1).f2))) = w44 at n0_ n1_ ⊢
     have BK176 := n0_
     have HB := n1_
     clear n0_ n1_
     replace BK176 := Aside0.mk (blk_drew BK176.out)
     replace HB := Aside0.mk (below_drew1 HB.out)
     refine start_ (n := 30) (S := fun w' => w'.cell? ⟨gb176, 0, none⟩ = some (.int .i64 ((rd_T43 l0 x7_1).f0)) ∧ w'.cell? ⟨gb176, 1, none⟩ = some (.int .i64 ((rd_T43 l0 x7_1).f1)) ∧ w'.cell? ⟨gb176, 2, none⟩ = some (.bool ((rd_T43 l0 x7_1).f2))) (ds := []) (bm 30 0) (by kernel_rfl) rfl (bm0 _) ⟨bc0 BK176, bc1 BK176, bc2 BK176⟩ (fun hHeld => ?_); refine with_tabW impl_IsRegistry.tab4 impl_IsRegistry.bits4 (fun HT_ HW_ => ?_)
     generalize w44.drew = w45 at BK176 HB hHeld ⊢
     refine pU 0 (some 12) (bm 30 1) HT_ rfl rfl ?_
     refine tU 1 (some 13) (bm 30 3) HT_ HW_ rfl rfl hHeld ?_
     refine one_ (i := 2) (N := some 14) (bm 30 7) rfl rfl (one_of HT_.out (by kernel_rfl)) (by decide) (fun K hK => ?_)
     refine goes_ Try.func28 (by kernel_rfl) rfl #[.int .i64 ((rd_T43 l0 x7_1).f0), .int .i64 0, .int .i64 255] (by rfl) rfl rfl zG ?_
     with_reducible refine (impl_InRange.calls ((rd_T43 l0 x7_1).f0) 0 255 false _ A5.out).mono ?_
     rintro e w' ⟨rfl, ⟨nd, rfl⟩⟩
     refine ⟨_, rfl, ?_⟩
     refine hK.out _ _ ⟨bc0 BK176, bc1 BK176, bc2 BK176⟩ (fun hHeld => ?_)
     clear hK K
     refine norm_ (a' := ?_) ?_ ?_
     rotate_left
     ·show Act.put _ (some 14) _ = _
      simp only [Act.put, List.setIfInBounds_toArray, List.set_cons_zero, List.set_cons_succ, i64_w, i32_w]
      rfl
     refine pU 3 (some 15) (bm 30 15) HT_ rfl rfl ?_
     refine pU 4 (some 16) (bm 30 31) HT_ rfl rfl ?_
     refine pV 5 (some 17) (bm 30 63) HT_ rfl rfl ?_
     refine pV 6 (some 18) (bm 30 127) HT_ rfl rfl ?_
     refine pV 7 (some 19) (bm 30 255) HT_ rfl rfl ?_
     refine pU 8 (some 20) (bm 30 511) HT_ rfl rfl ?_
     refine pU 9 (some 21) (bm 30 1023) HT_ rfl rfl ?_
     refine pV 10 (some 22) (bm 30 2047) HT_ rfl rfl ?_
     refine pV 11 (some 23) (bm 30 4095) HT_ rfl rfl ?_
     refine pV 12 (some 24) (bm 30 8191) HT_ rfl rfl ?_
     refine pV 13 (some 25) (bm 30 16383) HT_ rfl rfl ?_
     refine pV 14 (some 26) (bm 30 32767) HT_ rfl rfl ?_
     refine pV 15 (some 27) (bm 30 65535) HT_ rfl rfl ?_
     refine pV 16 (some 28) (bm 30 131071) HT_ rfl rfl ?_
     refine pV 17 (some 29) (bm 30 262143) HT_ rfl rfl ?_
     refine pV 18 (some 30) (bm 30 524287) HT_ rfl rfl ?_
     refine pV 19 (some 31) (bm 30 1048575) HT_ rfl rfl ?_
     refine pV 20 (some 32) (bm 30 2097151) HT_ rfl rfl ?_
     refine pV 21 (some 33) (bm 30 4194303) HT_ rfl rfl ?_
     refine pV 22 (some 34) (bm 30 8388607) HT_ rfl rfl ?_
     refine pU 23 (some 35) (bm 30 16777215) HT_ rfl rfl ?_
     refine pU 24 (some 36) (bm 30 33554431) HT_ rfl rfl ?_
     refine pV 25 (some 37) (bm 30 67108863) HT_ rfl rfl ?_
     refine pV 26 (some 38) (bm 30 134217727) HT_ rfl rfl ?_
     refine pV 27 (some 39) (bm 30 268435455) HT_ rfl rfl ?_
     refine pV 28 (some 40) (bm 30 536870911) HT_ rfl rfl ?_
     refine pU 29 (some 41) (bm 30 1073741823) HT_ rfl rfl ?_
     refine done_ (done_of HT_.out (by kernel_rfl)) ?_
     try clear hHeld
     try go_wp2
     go_ret
     exact ⟨zE, zB HB⟩
   ·rw [if_neg c2] at H
    have c2b0 : decide (x7_1 < (l0.length : Int)) = false := decide_eq_false c2
    clear c2
    obtain rfl := Option.some.inj H
    go_wp2
    go_ret
    exact ⟨zE, zB HB⟩

-- NOT PRINTED: function 36 (impl_Entry_36)

/-! ### impl_entryOf: function 29 (by hand) -/
theorem impl_entryOf.lit (x : S43)  (B0_ : Nat) (a1 : Int) (W : World) (hB0_ : W.cell? ⟨B0_, 0, none⟩ = some (.int .i64 a1))  :
  Calls Try.prog 37 #[.agg #[.int .i64 x.f0, .int .i64 x.f1, .bool x.f2], .pointer (some ⟨B0_, 0, none⟩)] W fun e w' => e = .returned (.bool (x.f0 == a1)) ∧ Below W.heap.size W w' := by
 have hqhB0_ := World.block_lt_of_cell? W _ hB0_
 have hu43 := Try.underlying43
 go_enter Try.func37, Try.ntmps37
 go_wp2
 go_ret
 exact ⟨rfl, by repeat (first | exact Below.refl _ _ | apply below_alloc | apply pw_below_drewN | apply below_drew1)⟩
set_option maxHeartbeats 4000000 in
set_option maxRecDepth 100000 in
theorem impl_entryOf.idx (A0 : Option Addr) (c0 : Nat) (l0 : List (S43)) (B0_ : Nat) (a1 : Int) (w : World) (hr0 : Kd.C k43 w A0 l0.length l0) (hc0 : l0.length ≤ c0) (hB0_ : w.cell? ⟨B0_, 0, none⟩ = some (.int .i64 a1)) :
  Calls Try.prog 36 #[.slice A0 l0.length c0, .func (.func 37) #[] #[.pointer (some ⟨B0_, 0, none⟩)]] w fun e w' => e = .returned (.int .i64 (idxOf (fun x => x.f0 == a1) l0)) ∧ Below w.heap.size w w' := by
 have hu43 := Try.underlying43
 have HL_ := Aside0.mk hr0.2.1
 have HR0 := Aside0.mk hr0
 have HhB0_ := Aside0.mk hB0_
 obtain ⟨m_, hm_⟩ : ∃ m_ : Int, m_ = idxOf (fun x => x.f0 == a1) l0 := ⟨_, rfl⟩
 rw [← hm_]
 have HM_ := Aside0.mk hm_
 clear hr0 hc0 hm_ hB0_
 go_enter Try.func36, Try.ntmps36
 go_wp2
 go_loopg [5, 8] l0.length (fun gg _ s8 wr => ∃ kk : Int, 0 ≤ kk ∧ kk ≤ l0.length ∧ l0.length - kk.toNat ≤ gg ∧ s8 = .int .i64 kk ∧ Aside0 (Below w.heap.size w wr) ∧ Aside0 (m_ = idxAt (fun x => x.f0 == a1) l0 kk))
 case atStart => exact ⟨0, by omega, by omega, by omega, rfl, ⟨Below.refl _ w⟩, ⟨by rw [HM_.out, idxAt_zero]⟩⟩
 case round =>
  obtain ⟨kk, h0, hkk, hg, rfl, BW, A_⟩ := hrel
  by_cases hlt : kk < (l0.length : Int)
  ·obtain ⟨ad, e_, hx0, hx1, hx2⟩ := at_T43 HR0.out kk h0 hlt
   cases e_
   replace hx0 := cell_later BW.out hx0
   replace hx1 := cell_later BW.out hx1
   replace hx2 := cell_later BW.out hx2
   have hlit := impl_entryOf.lit (rd_T43 l0 kk)  B0_ a1 wr (cell_later BW.out HhB0_.out) 
   have HLIT := Aside0.mk hlit
   clear hlit 
   obtain ⟨b, hb⟩ : ∃ b : Bool, b = (fun x : S43 => x.f0 == a1) (rd_T43 l0 kk) := ⟨_, rfl⟩
   have HQ := Aside0.mk hb
   replace HLIT : Aside0 (Calls Try.prog 37 #[.agg #[.int .i64 ((rd_T43 l0 kk).f0), .int .i64 ((rd_T43 l0 kk).f1), .bool ((rd_T43 l0 kk).f2)], .pointer (some ⟨B0_, 0, none⟩)] wr fun e w' => e = .returned (.bool b) ∧ Below wr.heap.size wr w') := by rw [hb]; exact HLIT
   clear hb
   cases b with
   | true =>
    go_wp2_with (go_at_call 37; refine HLIT.out.mono ?_; rintro e w' ⟨rfl, hb'⟩)
    go_ret
    exact ⟨ret_int (by rw [A_.out]; exact (idxAt_hit (fun x => x.f0 == a1) l0 z43 kk h0 hlt HQ.out.symm).symm), below_trans BW.out hb'⟩
   | false =>
    go_wp2_with (go_at_call 37; refine HLIT.out.mono ?_; rintro e w' ⟨rfl, hb'⟩)
    have hw1 := wrap_kk h0 hlt HL_.out
    go_roundg (l0.length - (kk.toNat + 1))
    case measure => omega
    case rel => exact ⟨kk + 1, by omega, by omega, by omega, by first | rfl | (rw [hw1]) | (simp only [hw1]), ⟨below_trans BW.out hb'⟩, ⟨by rw [A_.out]; exact idxAt_go (fun x => x.f0 == a1) l0 z43 kk h0 hlt HQ.out.symm⟩⟩
  ·go_wp2
   go_ret
   exact ⟨ret_int (by rw [A_.out]; exact (idxAt_end _ _ _ (by omega)).symm), BW.out⟩
def impl_entryOf.f (l0 : List (S43)) (a1 : Int) : Option (Int) := some (idxOf (fun x => x.f0 == a1) l0)
theorem impl_entryOf.calls (A0 : Option Addr) (c0 : Nat) (l0 : List (S43)) (a1 : Int) (r : Int) (w : World) (hr0 : Kd.C k43 w A0 l0.length l0) (hc0 : l0.length ≤ c0) (h : impl_entryOf.f l0 a1 = some r) :
  Calls Try.prog 29 #[.slice A0 l0.length c0, .int .i64 a1] w fun e w' => e = .returned (.int .i64 r) ∧ Below w.heap.size w w' := by
 obtain rfl := Option.some.inj h
 have HR0 := Aside0.mk hr0
 have HC0 := Aside0.mk hc0
 clear h hr0 hc0
 go_enter Try.func29, Try.ntmps29
 go_wp2_with (go_at_call 36; refine (impl_entryOf.idx A0 c0 l0 w.heap.size a1 _ (Kd.C_alloc HR0.out _) HC0.out ?_).mono ?_; (simp); rintro e w' ⟨rfl, hb⟩)
 go_ret
 exact ⟨rfl, below_trans (below_alloc (Below.refl _ _) _) hb⟩

-- NOT PRINTED: function 30 (impl_Entry_30)

end Go.Proofs.Ytgbfbdeeaogigaa.PFnExactAssignTag
