-- WRITTEN by pp.py, this session's own wrapper around the print; not trusted: Lean checks it
import Derived.Test.YtgbfbdeeaogigaaPFnRegistryx0
import Derived.Test.YtgbfbdeeaogigaaPFnRegistryx2
namespace Go.Proofs.Ytgbfbdeeaogigaa.PFnRegistry
open Go.RowKit Go.Proofs.Ytgbfbdeeaogigaa.Hw Go.Proofs.YtgbfbdeeaogigaaW.PrintWords Go.Proofs.YtgbfbdeeaogigaaW.PrintLast Go.Proofs.YtgbfbdeeaogigaaW.PrintMore
attribute [local go_sem] max2_int min2_int max_two min_two max_three min_three max_four min_four   -- for this text's walks alone
set_option linter.unusedVariables false
set_option linter.unusedSimpArgs false
set_option linter.unusedSectionVars false

/-! ### spec_IsRegistry: function 23 -/
def spec_IsRegistry.l0 : Nat → List (S43) → Int → Option (Bool)
 | 0, _, _ => none
 | k + 1, x0, x3 => if x3 < (x0.length : Int) then (if 0 ≤ x3 then ((spec_l1In.f ((rd_T43 x0 x3).f0) 0 255).bind fun t128 => (if t128 = true then ((spec_IsReserved.f ((rd_T43 x0 x3).f0)).bind fun t130 => (if t130 = true then (some false) else ((spec_l1In.f ((rd_T43 x0 x3).f1) 0 9).bind fun t132 => (if t132 = true then (if x3 > 0 then (if 0 ≤ (wrap64 (x3 - 1)) then (if (wrap64 (x3 - 1)) < (x0.length : Int) then (if ((rd_T43 x0 (wrap64 (x3 - 1))).f0) ≥ ((rd_T43 x0 x3).f0) then (some false) else (spec_IsRegistry.l0 k x0 (wrap64 (x3 + 1)))) else (none)) else (none)) else (spec_IsRegistry.l0 k x0 (wrap64 (x3 + 1)))) else (some false))))) else (some false))) else (none)) else (some (decide ((x0.length : Int) ≤ 12)))
def spec_IsRegistry.f (k : Nat) (l0 : List (S43)) : Option (Bool) := spec_IsRegistry.l0 k l0 0
theorem spec_IsRegistry.mono_l : ∀ k, (∀ y0 y1, LeO (spec_IsRegistry.l0 k y0 y1) (spec_IsRegistry.l0 (k + 1) y0 y1))
 | 0 => fun _ _ r h => by simp [spec_IsRegistry.l0] at h
 | k + 1 => by
  have ih0 := spec_IsRegistry.mono_l k
  ·intro y0 y1
   unfold spec_IsRegistry.l0
   repeat' first
   | (with_reducible exact ih0 _ _)
   | (with_reducible exact LeO.refl _)
   | (with_reducible exact LeO.none _)
   | (with_reducible refine LeO.ite ?_ ?_)
   | (with_reducible refine LeO.bind ?_ (fun _ => ?_))
   | exact ih0 _ _
   | exact LeO.none _
   | refine LeO.ite ?_ ?_
   | refine LeO.bind ?_ (fun _ => ?_)
theorem spec_IsRegistry.mono : ∀ a0 k, LeO (spec_IsRegistry.f k a0) (spec_IsRegistry.f (k + 1) a0) := by
 intro a0 k
 have ih0 := spec_IsRegistry.mono_l k
 unfold spec_IsRegistry.f
 repeat' first
   | (with_reducible exact ih0 _ _)
   | (with_reducible exact LeO.refl _)
   | (with_reducible exact LeO.none _)
   | (with_reducible refine LeO.ite ?_ ?_)
   | (with_reducible refine LeO.bind ?_ (fun _ => ?_))
   | exact ih0 _ _
   | exact LeO.none _
   | refine LeO.ite ?_ ?_
   | refine LeO.bind ?_ (fun _ => ?_)
def spec_IsRegistry.T4 : Bool × List (List Nat × List Nat) := (true, [([], []), ([], []), ([0, 1], [0, 1]), ([2], [2]), ([3], [3]), ([4], [4]), ([5], [5]), ([6, 5], [6]), ([7], [7]), ([7], [7]), ([8, 9, 7], [7, 8, 9]), ([10, 7], [7, 10]), ([11, 7], [7, 11]), ([12, 7, 7], [7, 12]), ([7, 13], [7, 13]), ([14, 13], [14]), ([15], [15]), ([15], [15]), ([16, 17, 15], [15, 16, 17]), ([18, 15], [15, 18]), ([19, 15], [15, 19]), ([20, 15, 15], [15, 20]), ([21, 15], [15, 21]), ([15, 22], [15, 22]), ([23, 21], [23]), ([24], [24]), ([25, 24], [24, 25]), ([26, 24, 24], [24, 26]), ([27], [27]), ([27], [27]), ([29, 27], [27, 29]), ([28, 30, 27], [27, 28, 30]), ([31, 27], [27, 31]), ([32, 27], [27, 32]), ([27], [27]), ([27], [27]), ([34, 35, 27], [27, 34, 35]), ([36, 27], [27, 36]), ([37, 27], [27, 37]), ([33, 38, 27], [27, 33, 38]), ([27, 39, 24], [24, 27, 39]), ([24, 40], [24, 40])])
def spec_IsRegistry.B4 : List Nat := [0, 0, 3, 7, 15, 31, 63, 127, 255, 255, 1023, 2047, 4095, 8191, 16383, 32767, 65535, 65535, 262143, 524287, 1048575, 2097151, 4194303, 8388607, 16777215, 33554431, 67108863, 134217727, 268435455, 268435455, 805306367, 2147483647, 4294967295, 8589934591, 268435455, 268435455, 51808043007, 120527519743, 257966473215, 549755813887, 1099511627775, 2199023255551]
theorem spec_IsRegistry.tab4 : rtab .any (opsOf Try.f23 4) = spec_IsRegistry.T4 := by kernel_rfl
theorem spec_IsRegistry.bits4 : waitsOk spec_IsRegistry.T4.2 spec_IsRegistry.B4 = true := by kernel_rfl
set_option maxHeartbeats 8000000 in
set_option maxRecDepth 100000 in
theorem spec_IsRegistry.calls (k : Nat) (A0 : Option Addr) (c0 : Nat) (l0 : List (S43)) (r : Bool) (w : World) (hr0 : Kd.C k43 w A0 l0.length l0) (hc0 : l0.length ≤ c0) (h : spec_IsRegistry.f k l0 = some r) :
  Calls Try.prog 23 #[.slice A0 l0.length c0] w fun e w' => e = .returned (.bool r) ∧ Below w.heap.size w w' := by
 have HR0 := Aside0.mk hr0
 have HC0 := Aside0.mk hc0
 clear hr0 hc0
 have HB := Aside0.mk (Below.refl w.heap.size w)
 have H : (spec_IsRegistry.l0 k l0 0) = some r := h
 clear h
 have H' := Aside0.mk H
 clear H
 go_enter Try.func23, Try.ntmps23
 go_wp2
 go_loopg [3] k (fun kq v3 w' => ∃ (x3_1 : Int), v3 = .int .i64 x3_1 ∧ Aside0 (spec_IsRegistry.l0 kq l0 x3_1 = some r) ∧ Aside0 (kq ≤ k) ∧ Aside0 (Below w.heap.size w w'))
 case atStart => exact ⟨(0), zF, H', ⟨Nat.le_refl _⟩, ⟨zB HB⟩⟩
 case round =>
  clear H'
  obtain ⟨x3_1, rfl, HA, HK1, HB⟩ := hrel
  cases gk with
  | zero => exact absurd HA.out (by simp [spec_IsRegistry.l0])
  | succ k1 =>
   have H := HA.out
   clear HA
   simp only [spec_IsRegistry.l0] at H
   by_cases c2 : x3_1 < (l0.length : Int)
   ·rw [if_pos c2] at H
    have c2b0 : decide (x3_1 < (l0.length : Int)) = true := decide_eq_true c2
    clear c2
    obtain ⟨c3, H⟩ := ifS H
    have c3b0 : decide (0 ≤ x3_1) = true := decide_eq_true c3
    clear c3
    obtain ⟨t128, A4, H⟩ := bindS H
    by_cases c5 : t128 = true
    ·subst c5
     have H1 : ((spec_IsReserved.f ((rd_T43 l0 x3_1).f0)).bind fun t130 => (if t130 = true then (some false) else ((spec_l1In.f ((rd_T43 l0 x3_1).f1) 0 9).bind fun t132 => (if t132 = true then (if x3_1 > 0 then (if 0 ≤ (wrap64 (x3_1 - 1)) then (if (wrap64 (x3_1 - 1)) < (l0.length : Int) then (if ((rd_T43 l0 (wrap64 (x3_1 - 1))).f0) ≥ ((rd_T43 l0 x3_1).f0) then (some false) else (spec_IsRegistry.l0 k1 l0 (wrap64 (x3_1 + 1)))) else (none)) else (none)) else (spec_IsRegistry.l0 k1 l0 (wrap64 (x3_1 + 1)))) else (some false))))) = some r := by rw [if_pos rfl] at H; exact H
     clear H
     have H := H1
     clear H1
     obtain ⟨t130, A6, H⟩ := bindS H
     by_cases c7 : t130 = true
     ·subst c7
      have H1 : (some false) = some r := by rw [if_pos rfl] at H; exact H
      clear H
      have H := H1
      clear H1
      obtain rfl := Option.some.inj H
      try go_wp2
      replace HB := Aside0.mk (below_drew1 HB.out)
      have p127 : 0 ≤ (x3_1 : Int) := zD
      have q127 : x3_1 < (l0.length : Int) := zD
      obtain ⟨ad127, e127, hx127_0, hx127_1, hx127_2⟩ := at_T43 HR0.out x3_1 p127 q127
      have hw127_2 := hx127_2
      have hw127_1 := hx127_1
      have hw127_0 := hx127_0
      cases e127
      replace hx127_0 := hL HB hx127_0
      replace hx127_1 := hL HB hx127_1
      replace hx127_2 := hL HB hx127_2
      replace p127 := eq_true p127
      replace q127 := eq_true q127
      have p129 : 0 ≤ (x3_1 : Int) := zD
      have q129 : x3_1 < (l0.length : Int) := zD
      obtain ⟨ad129, e129, hx129_0, hx129_1, hx129_2⟩ := at_T43 HR0.out x3_1 p129 q129
      have hw129_2 := hx129_2
      have hw129_1 := hx129_1
      have hw129_0 := hx129_0
      obtain rfl : ad127 = ad129 := (by injection e129)
      replace hx129_0 := hL HB hx129_0
      replace hx129_1 := hL HB hx129_1
      replace hx129_2 := hL HB hx129_2
      replace p129 := eq_true p129
      replace q129 := eq_true q129
      refine start_ (n := 42) (S := fun w' => w'.cell? (ad127.add ((x3_1).toNat * 3)) = some (.int .i64 ((rd_T43 l0 x3_1).f0)) ∧ w'.cell? ⟨(ad127.add ((x3_1).toNat * 3)).block, (ad127.add ((x3_1).toNat * 3)).off + 1, none⟩ = some (.int .i64 ((rd_T43 l0 x3_1).f1)) ∧ w'.cell? ⟨(ad127.add ((x3_1).toNat * 3)).block, (ad127.add ((x3_1).toNat * 3)).off + 2, none⟩ = some (.bool ((rd_T43 l0 x3_1).f2)) ∧ w'.cell? (ad127.add ((x3_1).toNat * 3)) = some (.int .i64 ((rd_T43 l0 x3_1).f0)) ∧ w'.cell? ⟨(ad127.add ((x3_1).toNat * 3)).block, (ad127.add ((x3_1).toNat * 3)).off + 1, none⟩ = some (.int .i64 ((rd_T43 l0 x3_1).f1)) ∧ w'.cell? ⟨(ad127.add ((x3_1).toNat * 3)).block, (ad127.add ((x3_1).toNat * 3)).off + 2, none⟩ = some (.bool ((rd_T43 l0 x3_1).f2))) (ds := []) (bm 42 0) (by kernel_rfl) rfl (bm0 _) ⟨(hL HB hw127_0), (hL HB hw127_1), (hL HB hw127_2), (hL HB hw129_0), (hL HB hw129_1), (hL HB hw129_2)⟩ (fun hHeld => ?_); refine with_tabW spec_IsRegistry.tab4 spec_IsRegistry.bits4 (fun HT_ HW_ => ?_)
      generalize wr.drew = w8 at HB hx127_0 hx127_1 hx127_2 hx129_0 hx129_1 hx129_2 hHeld ⊢
      refine pU 0 (some 10) (bm 42 1) HT_ rfl rfl ?_
      refine pU 1 (some 11) (bm 42 3) HT_ rfl rfl ?_
      refine pU 2 (some 12) (bm 42 7) HT_ rfl rfl ?_
      refine pU 3 (some 13) (bm 42 15) HT_ rfl rfl ?_
      refine tU 4 (some 14) (bm 42 31) HT_ HW_ rfl rfl hHeld ?_
      refine one_ (i := 5) (N := some 15) (bm 42 63) rfl rfl (one_of HT_.out (by kernel_rfl)) (by decide) (fun K hK => ?_)
      refine goes_ Try.func24 (by kernel_rfl) rfl #[.int .i64 ((rd_T43 l0 x3_1).f0), .int .i64 0, .int .i64 255] (by rfl) rfl rfl zG ?_
      with_reducible refine (spec_l1In.calls ((rd_T43 l0 x3_1).f0) 0 255 true _ A4.out).mono ?_
      rintro e w' ⟨rfl, ⟨nd, rfl⟩⟩
      refine ⟨_, rfl, ?_⟩
      refine hK.out _ _ ⟨(hL HB hw127_0), (hL HB hw127_1), (hL HB hw127_2), (hL HB hw129_0), (hL HB hw129_1), (hL HB hw129_2)⟩ (fun hHeld => ?_)
      clear hK K
      refine norm_ (a' := ?_) ?_ ?_
      rotate_left
      ·show Act.put _ (some 15) _ = _
       simp only [Act.put, List.setIfInBounds_toArray, List.set_cons_zero, List.set_cons_succ, i64_w, i32_w]
       rfl
      refine pU 6 (some 16) (bm 42 127) HT_ rfl rfl ?_
      refine pU 7 (some 17) (bm 42 255) HT_ rfl rfl ?_
      refine pU 8 (some 18) (bm 42 511) HT_ rfl rfl ?_
      refine pU 9 (some 19) (bm 42 1023) HT_ rfl rfl ?_
      refine pU 10 (some 20) (bm 42 2047) HT_ rfl rfl ?_
      refine pU 11 (some 21) (bm 42 4095) HT_ rfl rfl ?_
      refine tU 12 (some 22) (bm 42 8191) HT_ HW_ rfl rfl hHeld ?_
      refine one_ (i := 13) (N := some 23) (bm 42 16383) rfl rfl (one_of HT_.out (by kernel_rfl)) (by decide) (fun K hK => ?_)
      refine goes_ Try.func25 (by kernel_rfl) rfl #[.int .i64 ((rd_T43 l0 x3_1).f0)] (by rfl) rfl rfl zG ?_
      with_reducible refine (spec_IsReserved.calls ((rd_T43 l0 x3_1).f0) true _ A6.out).mono ?_
      rintro e w' ⟨rfl, ⟨nd, rfl⟩⟩
      refine ⟨_, rfl, ?_⟩
      refine hK.out _ _ ⟨(hL HB hw127_0), (hL HB hw127_1), (hL HB hw127_2), (hL HB hw129_0), (hL HB hw129_1), (hL HB hw129_2)⟩ (fun hHeld => ?_)
      clear hK K
      refine norm_ (a' := ?_) ?_ ?_
      rotate_left
      ·show Act.put _ (some 23) _ = _
       simp only [Act.put, List.setIfInBounds_toArray, List.set_cons_zero, List.set_cons_succ, i64_w, i32_w]
       rfl
      refine pU 14 (some 24) (bm 42 32767) HT_ rfl rfl ?_
      refine pU 15 (some 25) (bm 42 65535) HT_ rfl rfl ?_
      refine pV 16 (some 26) (bm 42 131071) HT_ rfl rfl ?_
      refine pV 17 (some 27) (bm 42 262143) HT_ rfl rfl ?_
      refine pV 18 (some 28) (bm 42 524287) HT_ rfl rfl ?_
      refine pV 19 (some 29) (bm 42 1048575) HT_ rfl rfl ?_
      refine pV 20 (some 30) (bm 42 2097151) HT_ rfl rfl ?_
      refine pV 21 (some 31) (bm 42 4194303) HT_ rfl rfl ?_
      refine pV 22 (some 32) (bm 42 8388607) HT_ rfl rfl ?_
      refine pU 23 (some 33) (bm 42 16777215) HT_ rfl rfl ?_
      refine pU 24 (some 34) (bm 42 33554431) HT_ rfl rfl ?_
      refine pV 25 (some 35) (bm 42 67108863) HT_ rfl rfl ?_
      refine pV 26 (some 36) (bm 42 134217727) HT_ rfl rfl ?_
      refine pV 27 (some 37) (bm 42 268435455) HT_ rfl rfl ?_
      refine pV 28 (some 38) (bm 42 536870911) HT_ rfl rfl ?_
      refine pV 29 (some 39) (bm 42 1073741823) HT_ rfl rfl ?_
      refine pV 30 (some 40) (bm 42 2147483647) HT_ rfl rfl ?_
      refine pV 31 (some 41) (bm 42 4294967295) HT_ rfl rfl ?_
      refine pV 32 (some 42) (bm 42 8589934591) HT_ rfl rfl ?_
      refine pV 33 (some 43) (bm 42 17179869183) HT_ rfl rfl ?_
      refine pV 34 (some 44) (bm 42 34359738367) HT_ rfl rfl ?_
      refine pV 35 (some 45) (bm 42 68719476735) HT_ rfl rfl ?_
      refine pV 36 (some 46) (bm 42 137438953471) HT_ rfl rfl ?_
      refine pV 37 (some 47) (bm 42 274877906943) HT_ rfl rfl ?_
      refine pV 38 (some 48) (bm 42 549755813887) HT_ rfl rfl ?_
      refine pV 39 (some 49) (bm 42 1099511627775) HT_ rfl rfl ?_
      refine pV 40 (some 50) (bm 42 2199023255551) HT_ rfl rfl ?_
      refine pU 41 (some 51) (bm 42 4398046511103) HT_ rfl rfl ?_
      refine done_ (done_of HT_.out (by kernel_rfl)) ?_
      try clear hHeld
      try go_wp2
      go_ret
      exact ⟨zE, zB HB⟩
     ·replace c7 := Bool.eq_false_iff.mpr c7
      subst c7
      have H1 : ((spec_l1In.f ((rd_T43 l0 x3_1).f1) 0 9).bind fun t132 => (if t132 = true then (if x3_1 > 0 then (if 0 ≤ (wrap64 (x3_1 - 1)) then (if (wrap64 (x3_1 - 1)) < (l0.length : Int) then (if ((rd_T43 l0 (wrap64 (x3_1 - 1))).f0) ≥ ((rd_T43 l0 x3_1).f0) then (some false) else (spec_IsRegistry.l0 k1 l0 (wrap64 (x3_1 + 1)))) else (none)) else (none)) else (spec_IsRegistry.l0 k1 l0 (wrap64 (x3_1 + 1)))) else (some false))) = some r := by rw [if_neg (show ¬ (false = true) by decide)] at H; exact H
      clear H
      have H := H1
      clear H1
      obtain ⟨t132, A9, H⟩ := bindS H
      by_cases c10 : t132 = true
      ·subst c10
       have H1 : (if x3_1 > 0 then (if 0 ≤ (wrap64 (x3_1 - 1)) then (if (wrap64 (x3_1 - 1)) < (l0.length : Int) then (if ((rd_T43 l0 (wrap64 (x3_1 - 1))).f0) ≥ ((rd_T43 l0 x3_1).f0) then (some false) else (spec_IsRegistry.l0 k1 l0 (wrap64 (x3_1 + 1)))) else (none)) else (none)) else (spec_IsRegistry.l0 k1 l0 (wrap64 (x3_1 + 1)))) = some r := by rw [if_pos rfl] at H; exact H
       clear H
       have H := H1
       clear H1
       by_cases c11 : x3_1 > 0
       ·rw [if_pos c11] at H
        have c11b0 : decide (0 < x3_1) = true := decide_eq_true c11
        clear c11
        obtain ⟨ji12, hji12⟩ : ∃ j_ : Int, (wrap64 (x3_1 - 1)) = j_ := ⟨_, rfl⟩
        replace H : (if 0 ≤ (ji12) then (if (ji12) < (l0.length : Int) then (if ((rd_T43 l0 (ji12)).f0) ≥ ((rd_T43 l0 x3_1).f0) then (some false) else (spec_IsRegistry.l0 k1 l0 (wrap64 (x3_1 + 1)))) else (none)) else (none)) = some r := by first | (rw [hji12] at H; exact H) | (simp only [hji12] at H ⊢; exact H)
        (try rw [hji12] at A4)
        (try rw [hji12] at A6)
        (try rw [hji12] at A9)
        have hji12w : (IntKind.i64.wrap (x3_1 - 1)) = ji12 := (i64_w _).trans hji12
        obtain ⟨c13, H⟩ := ifS H
        have c13b0 : decide (0 ≤ (ji12)) = true := decide_eq_true c13
        clear c13
        obtain ⟨c14, H⟩ := ifS H
        have c14b0 : decide ((ji12) < (l0.length : Int)) = true := decide_eq_true c14
        clear c14
        by_cases c15 : ((rd_T43 l0 (ji12)).f0) ≥ ((rd_T43 l0 x3_1).f0)
        ·rw [if_pos c15] at H
         have c15b0 : decide (((rd_T43 l0 x3_1).f0) ≤ ((rd_T43 l0 (ji12)).f0)) = true := decide_eq_true c15
         clear c15
         obtain rfl := Option.some.inj H
         try go_wp2
         replace HB := Aside0.mk (below_drew1 HB.out)
         have p127 : 0 ≤ (x3_1 : Int) := zD
         have q127 : x3_1 < (l0.length : Int) := zD
         obtain ⟨ad127, e127, hx127_0, hx127_1, hx127_2⟩ := at_T43 HR0.out x3_1 p127 q127
         have hw127_2 := hx127_2
         have hw127_1 := hx127_1
         have hw127_0 := hx127_0
         cases e127
         replace hx127_0 := hL HB hx127_0
         replace hx127_1 := hL HB hx127_1
         replace hx127_2 := hL HB hx127_2
         replace p127 := eq_true p127
         replace q127 := eq_true q127
         have p129 : 0 ≤ (x3_1 : Int) := zD
         have q129 : x3_1 < (l0.length : Int) := zD
         obtain ⟨ad129, e129, hx129_0, hx129_1, hx129_2⟩ := at_T43 HR0.out x3_1 p129 q129
         have hw129_2 := hx129_2
         have hw129_1 := hx129_1
         have hw129_0 := hx129_0
         obtain rfl : ad127 = ad129 := (by injection e129)
         replace hx129_0 := hL HB hx129_0
         replace hx129_1 := hL HB hx129_1
         replace hx129_2 := hL HB hx129_2
         replace p129 := eq_true p129
         replace q129 := eq_true q129
         have p131 : 0 ≤ (x3_1 : Int) := zD
         have q131 : x3_1 < (l0.length : Int) := zD
         obtain ⟨ad131, e131, hx131_0, hx131_1, hx131_2⟩ := at_T43 HR0.out x3_1 p131 q131
         have hw131_2 := hx131_2
         have hw131_1 := hx131_1
         have hw131_0 := hx131_0
         obtain rfl : ad127 = ad131 := (by injection e131)
         replace hx131_0 := hL HB hx131_0
         replace hx131_1 := hL HB hx131_1
         replace hx131_2 := hL HB hx131_2
         replace p131 := eq_true p131
         replace q131 := eq_true q131
         have p133 : 0 ≤ ((ji12) : Int) := zD
         have q133 : (ji12) < (l0.length : Int) := zD
         obtain ⟨ad133, e133, hx133_0, hx133_1, hx133_2⟩ := at_T43 HR0.out (ji12) p133 q133
         have hw133_2 := hx133_2
         have hw133_1 := hx133_1
         have hw133_0 := hx133_0
         obtain rfl : ad127 = ad133 := (by injection e133)
         replace hx133_0 := hL HB hx133_0
         replace hx133_1 := hL HB hx133_1
         replace hx133_2 := hL HB hx133_2
         replace p133 := eq_true p133
         replace q133 := eq_true q133
         have p134 : 0 ≤ (x3_1 : Int) := zD
         have q134 : x3_1 < (l0.length : Int) := zD
         obtain ⟨ad134, e134, hx134_0, hx134_1, hx134_2⟩ := at_T43 HR0.out x3_1 p134 q134
         have hw134_2 := hx134_2
         have hw134_1 := hx134_1
         have hw134_0 := hx134_0
         obtain rfl : ad127 = ad134 := (by injection e134)
         replace hx134_0 := hL HB hx134_0
         replace hx134_1 := hL HB hx134_1
         replace hx134_2 := hL HB hx134_2
         replace p134 := eq_true p134
         replace q134 := eq_true q134
         refine start_ (n := 42) (S := fun w' => w'.cell? (ad127.add ((x3_1).toNat * 3)) = some (.int .i64 ((rd_T43 l0 x3_1).f0)) ∧ w'.cell? ⟨(ad127.add ((x3_1).toNat * 3)).block, (ad127.add ((x3_1).toNat * 3)).off + 1, none⟩ = some (.int .i64 ((rd_T43 l0 x3_1).f1)) ∧ w'.cell? ⟨(ad127.add ((x3_1).toNat * 3)).block, (ad127.add ((x3_1).toNat * 3)).off + 2, none⟩ = some (.bool ((rd_T43 l0 x3_1).f2)) ∧ w'.cell? (ad127.add ((x3_1).toNat * 3)) = some (.int .i64 ((rd_T43 l0 x3_1).f0)) ∧ w'.cell? ⟨(ad127.add ((x3_1).toNat * 3)).block, (ad127.add ((x3_1).toNat * 3)).off + 1, none⟩ = some (.int .i64 ((rd_T43 l0 x3_1).f1)) ∧ w'.cell? ⟨(ad127.add ((x3_1).toNat * 3)).block, (ad127.add ((x3_1).toNat * 3)).off + 2, none⟩ = some (.bool ((rd_T43 l0 x3_1).f2)) ∧ w'.cell? (ad127.add ((x3_1).toNat * 3)) = some (.int .i64 ((rd_T43 l0 x3_1).f0)) ∧ w'.cell? ⟨(ad127.add ((x3_1).toNat * 3)).block, (ad127.add ((x3_1).toNat * 3)).off + 1, none⟩ = some (.int .i64 ((rd_T43 l0 x3_1).f1)) ∧ w'.cell? ⟨(ad127.add ((x3_1).toNat * 3)).block, (ad127.add ((x3_1).toNat * 3)).off + 2, none⟩ = some (.bool ((rd_T43 l0 x3_1).f2)) ∧ w'.cell? (ad127.add (((ji12)).toNat * 3)) = some (.int .i64 ((rd_T43 l0 (ji12)).f0)) ∧ w'.cell? ⟨(ad127.add (((ji12)).toNat * 3)).block, (ad127.add (((ji12)).toNat * 3)).off + 1, none⟩ = some (.int .i64 ((rd_T43 l0 (ji12)).f1)) ∧ w'.cell? ⟨(ad127.add (((ji12)).toNat * 3)).block, (ad127.add (((ji12)).toNat * 3)).off + 2, none⟩ = some (.bool ((rd_T43 l0 (ji12)).f2)) ∧ w'.cell? (ad127.add ((x3_1).toNat * 3)) = some (.int .i64 ((rd_T43 l0 x3_1).f0)) ∧ w'.cell? ⟨(ad127.add ((x3_1).toNat * 3)).block, (ad127.add ((x3_1).toNat * 3)).off + 1, none⟩ = some (.int .i64 ((rd_T43 l0 x3_1).f1)) ∧ w'.cell? ⟨(ad127.add ((x3_1).toNat * 3)).block, (ad127.add ((x3_1).toNat * 3)).off + 2, none⟩ = some (.bool ((rd_T43 l0 x3_1).f2))) (ds := []) (bm 42 0) (by kernel_rfl) rfl (bm0 _) ⟨(hL HB hw127_0), (hL HB hw127_1), (hL HB hw127_2), (hL HB hw129_0), (hL HB hw129_1), (hL HB hw129_2), (hL HB hw131_0), (hL HB hw131_1), (hL HB hw131_2), (hL HB hw133_0), (hL HB hw133_1), (hL HB hw133_2), (hL HB hw134_0), (hL HB hw134_1), (hL HB hw134_2)⟩ (fun hHeld => ?_); refine with_tabW spec_IsRegistry.tab4 spec_IsRegistry.bits4 (fun HT_ HW_ => ?_)
         generalize wr.drew = w16 at HB hx127_0 hx127_1 hx127_2 hx129_0 hx129_1 hx129_2 hx131_0 hx131_1 hx131_2 hx133_0 hx133_1 hx133_2 hx134_0 hx134_1 hx134_2 hHeld ⊢
         refine pU 0 (some 10) (bm 42 1) HT_ rfl rfl ?_
         refine pU 1 (some 11) (bm 42 3) HT_ rfl rfl ?_
         refine pU 2 (some 12) (bm 42 7) HT_ rfl rfl ?_
         refine pU 3 (some 13) (bm 42 15) HT_ rfl rfl ?_
         refine tU 4 (some 14) (bm 42 31) HT_ HW_ rfl rfl hHeld ?_
         refine one_ (i := 5) (N := some 15) (bm 42 63) rfl rfl (one_of HT_.out (by kernel_rfl)) (by decide) (fun K hK => ?_)
         refine goes_ Try.func24 (by kernel_rfl) rfl #[.int .i64 ((rd_T43 l0 x3_1).f0), .int .i64 0, .int .i64 255] (by rfl) rfl rfl zG ?_
         with_reducible refine (spec_l1In.calls ((rd_T43 l0 x3_1).f0) 0 255 true _ A4.out).mono ?_
         rintro e w' ⟨rfl, ⟨nd, rfl⟩⟩
         refine ⟨_, rfl, ?_⟩
         refine hK.out _ _ ⟨(hL HB hw127_0), (hL HB hw127_1), (hL HB hw127_2), (hL HB hw129_0), (hL HB hw129_1), (hL HB hw129_2), (hL HB hw131_0), (hL HB hw131_1), (hL HB hw131_2), (hL HB hw133_0), (hL HB hw133_1), (hL HB hw133_2), (hL HB hw134_0), (hL HB hw134_1), (hL HB hw134_2)⟩ (fun hHeld => ?_)
         clear hK K
         refine norm_ (a' := ?_) ?_ ?_
         rotate_left
         ·show Act.put _ (some 15) _ = _
          simp only [Act.put, List.setIfInBounds_toArray, List.set_cons_zero, List.set_cons_succ, i64_w, i32_w]
          rfl
         refine pU 6 (some 16) (bm 42 127) HT_ rfl rfl ?_
         refine pU 7 (some 17) (bm 42 255) HT_ rfl rfl ?_
         refine pU 8 (some 18) (bm 42 511) HT_ rfl rfl ?_
         refine pU 9 (some 19) (bm 42 1023) HT_ rfl rfl ?_
         refine pU 10 (some 20) (bm 42 2047) HT_ rfl rfl ?_
         refine pU 11 (some 21) (bm 42 4095) HT_ rfl rfl ?_
         refine tU 12 (some 22) (bm 42 8191) HT_ HW_ rfl rfl hHeld ?_
         refine one_ (i := 13) (N := some 23) (bm 42 16383) rfl rfl (one_of HT_.out (by kernel_rfl)) (by decide) (fun K hK => ?_)
         refine goes_ Try.func25 (by kernel_rfl) rfl #[.int .i64 ((rd_T43 l0 x3_1).f0)] (by rfl) rfl rfl zG ?_
         with_reducible refine (spec_IsReserved.calls ((rd_T43 l0 x3_1).f0) false _ A6.out).mono ?_
         rintro e w' ⟨rfl, ⟨nd, rfl⟩⟩
         refine ⟨_, rfl, ?_⟩
         refine hK.out _ _ ⟨(hL HB hw127_0), (hL HB hw127_1), (hL HB hw127_2), (hL HB hw129_0), (hL HB hw129_1), (hL HB hw129_2), (hL HB hw131_0), (hL HB hw131_1), (hL HB hw131_2), (hL HB hw133_0), (hL HB hw133_1), (hL HB hw133_2), (hL HB hw134_0), (hL HB hw134_1), (hL HB hw134_2)⟩ (fun hHeld => ?_)
         clear hK K
         refine norm_ (a' := ?_) ?_ ?_
         rotate_left
         ·show Act.put _ (some 23) _ = _
          simp only [Act.put, List.setIfInBounds_toArray, List.set_cons_zero, List.set_cons_succ, i64_w, i32_w]
          rfl
         refine pU 14 (some 24) (bm 42 32767) HT_ rfl rfl ?_
         refine pU 15 (some 25) (bm 42 65535) HT_ rfl rfl ?_
         refine pU 16 (some 26) (bm 42 131071) HT_ rfl rfl ?_
         refine pU 17 (some 27) (bm 42 262143) HT_ rfl rfl ?_
         refine pU 18 (some 28) (bm 42 524287) HT_ rfl rfl ?_
         refine pU 19 (some 29) (bm 42 1048575) HT_ rfl rfl ?_
         refine tU 20 (some 30) (bm 42 2097151) HT_ HW_ rfl rfl hHeld ?_
         refine one_ (i := 21) (N := some 31) (bm 42 4194303) rfl rfl (one_of HT_.out (by kernel_rfl)) (by decide) (fun K hK => ?_)
         refine goes_ Try.func24 (by kernel_rfl) rfl #[.int .i64 ((rd_T43 l0 x3_1).f1), .int .i64 0, .int .i64 9] (by rfl) rfl rfl zG ?_
         with_reducible refine (spec_l1In.calls ((rd_T43 l0 x3_1).f1) 0 9 true _ A9.out).mono ?_
         rintro e w' ⟨rfl, ⟨nd, rfl⟩⟩
         refine ⟨_, rfl, ?_⟩
         refine hK.out _ _ ⟨(hL HB hw127_0), (hL HB hw127_1), (hL HB hw127_2), (hL HB hw129_0), (hL HB hw129_1), (hL HB hw129_2), (hL HB hw131_0), (hL HB hw131_1), (hL HB hw131_2), (hL HB hw133_0), (hL HB hw133_1), (hL HB hw133_2), (hL HB hw134_0), (hL HB hw134_1), (hL HB hw134_2)⟩ (fun hHeld => ?_)
         clear hK K
         refine norm_ (a' := ?_) ?_ ?_
         rotate_left
         ·show Act.put _ (some 31) _ = _
          simp only [Act.put, List.setIfInBounds_toArray, List.set_cons_zero, List.set_cons_succ, i64_w, i32_w]
          rfl
         refine pU 22 (some 32) (bm 42 8388607) HT_ rfl rfl ?_
         refine pU 23 (some 33) (bm 42 16777215) HT_ rfl rfl ?_
         refine pU 24 (some 34) (bm 42 33554431) HT_ rfl rfl ?_
         refine pU 25 (some 35) (bm 42 67108863) HT_ rfl rfl ?_
         refine pU 26 (some 36) (bm 42 134217727) HT_ rfl rfl ?_
         refine pU 27 (some 37) (bm 42 268435455) HT_ rfl rfl ?_
         refine pU 28 (some 38) (bm 42 536870911) HT_ rfl rfl ?_
         refine pU 29 (some 39) (bm 42 1073741823) HT_ rfl rfl ?_
         refine pU 30 (some 40) (bm 42 2147483647) HT_ rfl rfl ?_
         refine pU 31 (some 41) (bm 42 4294967295) HT_ rfl rfl ?_
         refine pU 32 (some 42) (bm 42 8589934591) HT_ rfl rfl ?_
         refine pU 34 (some 44) (bm 42 25769803775) HT_ rfl rfl ?_
         refine pU 35 (some 45) (bm 42 60129542143) HT_ rfl rfl ?_
         refine pU 36 (some 46) (bm 42 128849018879) HT_ rfl rfl ?_
         refine pU 37 (some 47) (bm 42 266287972351) HT_ rfl rfl ?_
         refine tU 33 (some 43) (bm 42 274877906943) HT_ HW_ rfl rfl hHeld ?_
         refine tU 38 (some 48) (bm 42 549755813887) HT_ HW_ rfl rfl hHeld ?_
         refine pU 39 (some 49) (bm 42 1099511627775) HT_ rfl rfl ?_
         refine pU 40 (some 50) (bm 42 2199023255551) HT_ rfl rfl ?_
         refine pU 41 (some 51) (bm 42 4398046511103) HT_ rfl rfl ?_
         refine done_ (done_of HT_.out (by kernel_rfl)) ?_
         try clear hHeld
         try go_wp2
         go_ret
         exact ⟨by first | rfl | (simp [errW_none, errW_some] <;> rfl) | (simp only [← hji12]; first | rfl | (simp [errW_none, errW_some] <;> rfl)) | (simp [*, errW_none, errW_some] <;> rfl), zB HB⟩
        ·rw [if_neg c15] at H
         have c15b0 : decide (((rd_T43 l0 x3_1).f0) ≤ ((rd_T43 l0 (ji12)).f0)) = false := decide_eq_false c15
         clear c15
         have H' := Aside0.mk H
         clear H
         try go_wp2
         replace HB := Aside0.mk (below_drew1 HB.out)
         have p127 : 0 ≤ (x3_1 : Int) := zD
         have q127 : x3_1 < (l0.length : Int) := zD
         obtain ⟨ad127, e127, hx127_0, hx127_1, hx127_2⟩ := at_T43 HR0.out x3_1 p127 q127
         have hw127_2 := hx127_2
         have hw127_1 := hx127_1
         have hw127_0 := hx127_0
         cases e127
         replace hx127_0 := hL HB hx127_0
         replace hx127_1 := hL HB hx127_1
         replace hx127_2 := hL HB hx127_2
         replace p127 := eq_true p127
         replace q127 := eq_true q127
         have p129 : 0 ≤ (x3_1 : Int) := zD
         have q129 : x3_1 < (l0.length : Int) := zD
         obtain ⟨ad129, e129, hx129_0, hx129_1, hx129_2⟩ := at_T43 HR0.out x3_1 p129 q129
         have hw129_2 := hx129_2
         have hw129_1 := hx129_1
         have hw129_0 := hx129_0
         obtain rfl : ad127 = ad129 := (by injection e129)
         replace hx129_0 := hL HB hx129_0
         replace hx129_1 := hL HB hx129_1
         replace hx129_2 := hL HB hx129_2
         replace p129 := eq_true p129
         replace q129 := eq_true q129
         have p131 : 0 ≤ (x3_1 : Int) := zD
         have q131 : x3_1 < (l0.length : Int) := zD
         obtain ⟨ad131, e131, hx131_0, hx131_1, hx131_2⟩ := at_T43 HR0.out x3_1 p131 q131
         have hw131_2 := hx131_2
         have hw131_1 := hx131_1
         have hw131_0 := hx131_0
         obtain rfl : ad127 = ad131 := (by injection e131)
         replace hx131_0 := hL HB hx131_0
         replace hx131_1 := hL HB hx131_1
         replace hx131_2 := hL HB hx131_2
         replace p131 := eq_true p131
         replace q131 := eq_true q131
         have p133 : 0 ≤ ((ji12) : Int) := zD
         have q133 : (ji12) < (l0.length : Int) := zD
         obtain ⟨ad133, e133, hx133_0, hx133_1, hx133_2⟩ := at_T43 HR0.out (ji12) p133 q133
         have hw133_2 := hx133_2
         have hw133_1 := hx133_1
         have hw133_0 := hx133_0
         obtain rfl : ad127 = ad133 := (by injection e133)
         replace hx133_0 := hL HB hx133_0
         replace hx133_1 := hL HB hx133_1
         replace hx133_2 := hL HB hx133_2
         replace p133 := eq_true p133
         replace q133 := eq_true q133
         have p134 : 0 ≤ (x3_1 : Int) := zD
         have q134 : x3_1 < (l0.length : Int) := zD
         obtain ⟨ad134, e134, hx134_0, hx134_1, hx134_2⟩ := at_T43 HR0.out x3_1 p134 q134
         have hw134_2 := hx134_2
         have hw134_1 := hx134_1
         have hw134_0 := hx134_0
         obtain rfl : ad127 = ad134 := (by injection e134)
         replace hx134_0 := hL HB hx134_0
         replace hx134_1 := hL HB hx134_1
         replace hx134_2 := hL HB hx134_2
         replace p134 := eq_true p134
         replace q134 := eq_true q134
         refine start_ (n := 42) (S := fun w' => w'.cell? (ad127.add ((x3_1).toNat * 3)) = some (.int .i64 ((rd_T43 l0 x3_1).f0)) ∧ w'.cell? ⟨(ad127.add ((x3_1).toNat * 3)).block, (ad127.add ((x3_1).toNat * 3)).off + 1, none⟩ = some (.int .i64 ((rd_T43 l0 x3_1).f1)) ∧ w'.cell? ⟨(ad127.add ((x3_1).toNat * 3)).block, (ad127.add ((x3_1).toNat * 3)).off + 2, none⟩ = some (.bool ((rd_T43 l0 x3_1).f2)) ∧ w'.cell? (ad127.add ((x3_1).toNat * 3)) = some (.int .i64 ((rd_T43 l0 x3_1).f0)) ∧ w'.cell? ⟨(ad127.add ((x3_1).toNat * 3)).block, (ad127.add ((x3_1).toNat * 3)).off + 1, none⟩ = some (.int .i64 ((rd_T43 l0 x3_1).f1)) ∧ w'.cell? ⟨(ad127.add ((x3_1).toNat * 3)).block, (ad127.add ((x3_1).toNat * 3)).off + 2, none⟩ = some (.bool ((rd_T43 l0 x3_1).f2)) ∧ w'.cell? (ad127.add ((x3_1).toNat * 3)) = some (.int .i64 ((rd_T43 l0 x3_1).f0)) ∧ w'.cell? ⟨(ad127.add ((x3_1).toNat * 3)).block, (ad127.add ((x3_1).toNat * 3)).off + 1, none⟩ = some (.int .i64 ((rd_T43 l0 x3_1).f1)) ∧ w'.cell? ⟨(ad127.add ((x3_1).toNat * 3)).block, (ad127.add ((x3_1).toNat * 3)).off + 2, none⟩ = some (.bool ((rd_T43 l0 x3_1).f2)) ∧ w'.cell? (ad127.add (((ji12)).toNat * 3)) = some (.int .i64 ((rd_T43 l0 (ji12)).f0)) ∧ w'.cell? ⟨(ad127.add (((ji12)).toNat * 3)).block, (ad127.add (((ji12)).toNat * 3)).off + 1, none⟩ = some (.int .i64 ((rd_T43 l0 (ji12)).f1)) ∧ w'.cell? ⟨(ad127.add (((ji12)).toNat * 3)).block, (ad127.add (((ji12)).toNat * 3)).off + 2, none⟩ = some (.bool ((rd_T43 l0 (ji12)).f2)) ∧ w'.cell? (ad127.add ((x3_1).toNat * 3)) = some (.int .i64 ((rd_T43 l0 x3_1).f0)) ∧ w'.cell? ⟨(ad127.add ((x3_1).toNat * 3)).block, (ad127.add ((x3_1).toNat * 3)).off + 1, none⟩ = some (.int .i64 ((rd_T43 l0 x3_1).f1)) ∧ w'.cell? ⟨(ad127.add ((x3_1).toNat * 3)).block, (ad127.add ((x3_1).toNat * 3)).off + 2, none⟩ = some (.bool ((rd_T43 l0 x3_1).f2))) (ds := []) (bm 42 0) (by kernel_rfl) rfl (bm0 _) ⟨(hL HB hw127_0), (hL HB hw127_1), (hL HB hw127_2), (hL HB hw129_0), (hL HB hw129_1), (hL HB hw129_2), (hL HB hw131_0), (hL HB hw131_1), (hL HB hw131_2), (hL HB hw133_0), (hL HB hw133_1), (hL HB hw133_2), (hL HB hw134_0), (hL HB hw134_1), (hL HB hw134_2)⟩ (fun hHeld => ?_); refine with_tabW spec_IsRegistry.tab4 spec_IsRegistry.bits4 (fun HT_ HW_ => ?_)
         generalize wr.drew = w17 at HB hx127_0 hx127_1 hx127_2 hx129_0 hx129_1 hx129_2 hx131_0 hx131_1 hx131_2 hx133_0 hx133_1 hx133_2 hx134_0 hx134_1 hx134_2 hHeld ⊢
         refine pU 0 (some 10) (bm 42 1) HT_ rfl rfl ?_
         refine pU 1 (some 11) (bm 42 3) HT_ rfl rfl ?_
         refine pU 2 (some 12) (bm 42 7) HT_ rfl rfl ?_
         refine pU 3 (some 13) (bm 42 15) HT_ rfl rfl ?_
         refine tU 4 (some 14) (bm 42 31) HT_ HW_ rfl rfl hHeld ?_
         refine one_ (i := 5) (N := some 15) (bm 42 63) rfl rfl (one_of HT_.out (by kernel_rfl)) (by decide) (fun K hK => ?_)
         refine goes_ Try.func24 (by kernel_rfl) rfl #[.int .i64 ((rd_T43 l0 x3_1).f0), .int .i64 0, .int .i64 255] (by rfl) rfl rfl zG ?_
         with_reducible refine (spec_l1In.calls ((rd_T43 l0 x3_1).f0) 0 255 true _ A4.out).mono ?_
         rintro e w' ⟨rfl, ⟨nd, rfl⟩⟩
         refine ⟨_, rfl, ?_⟩
         refine hK.out _ _ ⟨(hL HB hw127_0), (hL HB hw127_1), (hL HB hw127_2), (hL HB hw129_0), (hL HB hw129_1), (hL HB hw129_2), (hL HB hw131_0), (hL HB hw131_1), (hL HB hw131_2), (hL HB hw133_0), (hL HB hw133_1), (hL HB hw133_2), (hL HB hw134_0), (hL HB hw134_1), (hL HB hw134_2)⟩ (fun hHeld => ?_)
         clear hK K
         refine norm_ (a' := ?_) ?_ ?_
         rotate_left
         ·show Act.put _ (some 15) _ = _
          simp only [Act.put, List.setIfInBounds_toArray, List.set_cons_zero, List.set_cons_succ, i64_w, i32_w]
          rfl
         refine pU 6 (some 16) (bm 42 127) HT_ rfl rfl ?_
         refine pU 7 (some 17) (bm 42 255) HT_ rfl rfl ?_
         refine pU 8 (some 18) (bm 42 511) HT_ rfl rfl ?_
         refine pU 9 (some 19) (bm 42 1023) HT_ rfl rfl ?_
         refine pU 10 (some 20) (bm 42 2047) HT_ rfl rfl ?_
         refine pU 11 (some 21) (bm 42 4095) HT_ rfl rfl ?_
         refine tU 12 (some 22) (bm 42 8191) HT_ HW_ rfl rfl hHeld ?_
         refine one_ (i := 13) (N := some 23) (bm 42 16383) rfl rfl (one_of HT_.out (by kernel_rfl)) (by decide) (fun K hK => ?_)
         refine goes_ Try.func25 (by kernel_rfl) rfl #[.int .i64 ((rd_T43 l0 x3_1).f0)] (by rfl) rfl rfl zG ?_
         with_reducible refine (spec_IsReserved.calls ((rd_T43 l0 x3_1).f0) false _ A6.out).mono ?_
         rintro e w' ⟨rfl, ⟨nd, rfl⟩⟩
         refine ⟨_, rfl, ?_⟩
         refine hK.out _ _ ⟨(hL HB hw127_0), (hL HB hw127_1), (hL HB hw127_2), (hL HB hw129_0), (hL HB hw129_1), (hL HB hw129_2), (hL HB hw131_0), (hL HB hw131_1), (hL HB hw131_2), (hL HB hw133_0), (hL HB hw133_1), (hL HB hw133_2), (hL HB hw134_0), (hL HB hw134_1), (hL HB hw134_2)⟩ (fun hHeld => ?_)
         clear hK K
         refine norm_ (a' := ?_) ?_ ?_
         rotate_left
         ·show Act.put _ (some 23) _ = _
          simp only [Act.put, List.setIfInBounds_toArray, List.set_cons_zero, List.set_cons_succ, i64_w, i32_w]
          rfl
         refine pU 14 (some 24) (bm 42 32767) HT_ rfl rfl ?_
         refine pU 15 (some 25) (bm 42 65535) HT_ rfl rfl ?_
         refine pU 16 (some 26) (bm 42 131071) HT_ rfl rfl ?_
         refine pU 17 (some 27) (bm 42 262143) HT_ rfl rfl ?_
         refine pU 18 (some 28) (bm 42 524287) HT_ rfl rfl ?_
         refine pU 19 (some 29) (bm 42 1048575) HT_ rfl rfl ?_
         refine tU 20 (some 30) (bm 42 2097151) HT_ HW_ rfl rfl hHeld ?_
         refine one_ (i := 21) (N := some 31) (bm 42 4194303) rfl rfl (one_of HT_.out (by kernel_rfl)) (by decide) (fun K hK => ?_)
         refine goes_ Try.func24 (by kernel_rfl) rfl #[.int .i64 ((rd_T43 l0 x3_1).f1), .int .i64 0, .int .i64 9] (by rfl) rfl rfl zG ?_
         with_reducible refine (spec_l1In.calls ((rd_T43 l0 x3_1).f1) 0 9 true _ A9.out).mono ?_
         rintro e w' ⟨rfl, ⟨nd, rfl⟩⟩
         refine ⟨_, rfl, ?_⟩
         refine hK.out _ _ ⟨(hL HB hw127_0), (hL HB hw127_1), (hL HB hw127_2), (hL HB hw129_0), (hL HB hw129_1), (hL HB hw129_2), (hL HB hw131_0), (hL HB hw131_1), (hL HB hw131_2), (hL HB hw133_0), (hL HB hw133_1), (hL HB hw133_2), (hL HB hw134_0), (hL HB hw134_1), (hL HB hw134_2)⟩ (fun hHeld => ?_)
         clear hK K
         refine norm_ (a' := ?_) ?_ ?_
         rotate_left
         ·show Act.put _ (some 31) _ = _
          simp only [Act.put, List.setIfInBounds_toArray, List.set_cons_zero, List.set_cons_succ, i64_w, i32_w]
          rfl
         refine pU 22 (some 32) (bm 42 8388607) HT_ rfl rfl ?_
         refine pU 23 (some 33) (bm 42 16777215) HT_ rfl rfl ?_
         refine pU 24 (some 34) (bm 42 33554431) HT_ rfl rfl ?_
         refine pU 25 (some 35) (bm 42 67108863) HT_ rfl rfl ?_
         refine pU 26 (some 36) (bm 42 134217727) HT_ rfl rfl ?_
         refine pU 27 (some 37) (bm 42 268435455) HT_ rfl rfl ?_
         refine pU 28 (some 38) (bm 42 536870911) HT_ rfl rfl ?_
         refine pU 29 (some 39) (bm 42 1073741823) HT_ rfl rfl ?_
         refine pU 30 (some 40) (bm 42 2147483647) HT_ rfl rfl ?_
         refine pU 31 (some 41) (bm 42 4294967295) HT_ rfl rfl ?_
         refine pU 32 (some 42) (bm 42 8589934591) HT_ rfl rfl ?_
         refine pU 34 (some 44) (bm 42 25769803775) HT_ rfl rfl ?_
         refine pU 35 (some 45) (bm 42 60129542143) HT_ rfl rfl ?_
         refine pU 36 (some 46) (bm 42 128849018879) HT_ rfl rfl ?_
         refine pU 37 (some 47) (bm 42 266287972351) HT_ rfl rfl ?_
         refine tU 33 (some 43) (bm 42 274877906943) HT_ HW_ rfl rfl hHeld ?_
         refine tU 38 (some 48) (bm 42 549755813887) HT_ HW_ rfl rfl hHeld ?_
         refine pU 39 (some 49) (bm 42 1099511627775) HT_ rfl rfl ?_
         refine pU 40 (some 50) (bm 42 2199023255551) HT_ rfl rfl ?_
         refine pU 41 (some 51) (bm 42 4398046511103) HT_ rfl rfl ?_
         refine done_ (done_of HT_.out (by kernel_rfl)) ?_
         try clear hHeld
         try go_wp2
         go_roundg k1
         case measure => have := HK1.out; omega
         case rel => exact ⟨(wrap64 (x3_1 + 1)), zF, H', ⟨by have := HK1.out; omega⟩, ⟨zB HB⟩⟩
       ·rw [if_neg c11] at H
        have c11b0 : decide (0 < x3_1) = false := decide_eq_false c11
        clear c11
        have H' := Aside0.mk H
        clear H
        try go_wp2
        replace HB := Aside0.mk (below_drew1 HB.out)
        have p127 : 0 ≤ (x3_1 : Int) := zD
        have q127 : x3_1 < (l0.length : Int) := zD
        obtain ⟨ad127, e127, hx127_0, hx127_1, hx127_2⟩ := at_T43 HR0.out x3_1 p127 q127
        have hw127_2 := hx127_2
        have hw127_1 := hx127_1
        have hw127_0 := hx127_0
        cases e127
        replace hx127_0 := hL HB hx127_0
        replace hx127_1 := hL HB hx127_1
        replace hx127_2 := hL HB hx127_2
        replace p127 := eq_true p127
        replace q127 := eq_true q127
        have p129 : 0 ≤ (x3_1 : Int) := zD
        have q129 : x3_1 < (l0.length : Int) := zD
        obtain ⟨ad129, e129, hx129_0, hx129_1, hx129_2⟩ := at_T43 HR0.out x3_1 p129 q129
        have hw129_2 := hx129_2
        have hw129_1 := hx129_1
        have hw129_0 := hx129_0
        obtain rfl : ad127 = ad129 := (by injection e129)
        replace hx129_0 := hL HB hx129_0
        replace hx129_1 := hL HB hx129_1
        replace hx129_2 := hL HB hx129_2
        replace p129 := eq_true p129
        replace q129 := eq_true q129
        have p131 : 0 ≤ (x3_1 : Int) := zD
        have q131 : x3_1 < (l0.length : Int) := zD
        obtain ⟨ad131, e131, hx131_0, hx131_1, hx131_2⟩ := at_T43 HR0.out x3_1 p131 q131
        have hw131_2 := hx131_2
        have hw131_1 := hx131_1
        have hw131_0 := hx131_0
        obtain rfl : ad127 = ad131 := (by injection e131)
        replace hx131_0 := hL HB hx131_0
        replace hx131_1 := hL HB hx131_1
        replace hx131_2 := hL HB hx131_2
        replace p131 := eq_true p131
        replace q131 := eq_true q131
        refine start_ (n := 42) (S := fun w' => w'.cell? (ad127.add ((x3_1).toNat * 3)) = some (.int .i64 ((rd_T43 l0 x3_1).f0)) ∧ w'.cell? ⟨(ad127.add ((x3_1).toNat * 3)).block, (ad127.add ((x3_1).toNat * 3)).off + 1, none⟩ = some (.int .i64 ((rd_T43 l0 x3_1).f1)) ∧ w'.cell? ⟨(ad127.add ((x3_1).toNat * 3)).block, (ad127.add ((x3_1).toNat * 3)).off + 2, none⟩ = some (.bool ((rd_T43 l0 x3_1).f2)) ∧ w'.cell? (ad127.add ((x3_1).toNat * 3)) = some (.int .i64 ((rd_T43 l0 x3_1).f0)) ∧ w'.cell? ⟨(ad127.add ((x3_1).toNat * 3)).block, (ad127.add ((x3_1).toNat * 3)).off + 1, none⟩ = some (.int .i64 ((rd_T43 l0 x3_1).f1)) ∧ w'.cell? ⟨(ad127.add ((x3_1).toNat * 3)).block, (ad127.add ((x3_1).toNat * 3)).off + 2, none⟩ = some (.bool ((rd_T43 l0 x3_1).f2)) ∧ w'.cell? (ad127.add ((x3_1).toNat * 3)) = some (.int .i64 ((rd_T43 l0 x3_1).f0)) ∧ w'.cell? ⟨(ad127.add ((x3_1).toNat * 3)).block, (ad127.add ((x3_1).toNat * 3)).off + 1, none⟩ = some (.int .i64 ((rd_T43 l0 x3_1).f1)) ∧ w'.cell? ⟨(ad127.add ((x3_1).toNat * 3)).block, (ad127.add ((x3_1).toNat * 3)).off + 2, none⟩ = some (.bool ((rd_T43 l0 x3_1).f2))) (ds := []) (bm 42 0) (by kernel_rfl) rfl (bm0 _) ⟨(hL HB hw127_0), (hL HB hw127_1), (hL HB hw127_2), (hL HB hw129_0), (hL HB hw129_1), (hL HB hw129_2), (hL HB hw131_0), (hL HB hw131_1), (hL HB hw131_2)⟩ (fun hHeld => ?_); refine with_tabW spec_IsRegistry.tab4 spec_IsRegistry.bits4 (fun HT_ HW_ => ?_)
        generalize wr.drew = w18 at HB hx127_0 hx127_1 hx127_2 hx129_0 hx129_1 hx129_2 hx131_0 hx131_1 hx131_2 hHeld ⊢
        refine pU 0 (some 10) (bm 42 1) HT_ rfl rfl ?_
        refine pU 1 (some 11) (bm 42 3) HT_ rfl rfl ?_
        refine pU 2 (some 12) (bm 42 7) HT_ rfl rfl ?_
        refine pU 3 (some 13) (bm 42 15) HT_ rfl rfl ?_
        refine tU 4 (some 14) (bm 42 31) HT_ HW_ rfl rfl hHeld ?_
        refine one_ (i := 5) (N := some 15) (bm 42 63) rfl rfl (one_of HT_.out (by kernel_rfl)) (by decide) (fun K hK => ?_)
        refine goes_ Try.func24 (by kernel_rfl) rfl #[.int .i64 ((rd_T43 l0 x3_1).f0), .int .i64 0, .int .i64 255] (by rfl) rfl rfl zG ?_
        with_reducible refine (spec_l1In.calls ((rd_T43 l0 x3_1).f0) 0 255 true _ A4.out).mono ?_
        rintro e w' ⟨rfl, ⟨nd, rfl⟩⟩
        refine ⟨_, rfl, ?_⟩
        refine hK.out _ _ ⟨(hL HB hw127_0), (hL HB hw127_1), (hL HB hw127_2), (hL HB hw129_0), (hL HB hw129_1), (hL HB hw129_2), (hL HB hw131_0), (hL HB hw131_1), (hL HB hw131_2)⟩ (fun hHeld => ?_)
        clear hK K
        refine norm_ (a' := ?_) ?_ ?_
        rotate_left
        ·show Act.put _ (some 15) _ = _
         simp only [Act.put, List.setIfInBounds_toArray, List.set_cons_zero, List.set_cons_succ, i64_w, i32_w]
         rfl
        refine pU 6 (some 16) (bm 42 127) HT_ rfl rfl ?_
        refine pU 7 (some 17) (bm 42 255) HT_ rfl rfl ?_
        refine pU 8 (some 18) (bm 42 511) HT_ rfl rfl ?_
        refine pU 9 (some 19) (bm 42 1023) HT_ rfl rfl ?_
        refine pU 10 (some 20) (bm 42 2047) HT_ rfl rfl ?_
        refine pU 11 (some 21) (bm 42 4095) HT_ rfl rfl ?_
        refine tU 12 (some 22) (bm 42 8191) HT_ HW_ rfl rfl hHeld ?_
        refine one_ (i := 13) (N := some 23) (bm 42 16383) rfl rfl (one_of HT_.out (by kernel_rfl)) (by decide) (fun K hK => ?_)
        refine goes_ Try.func25 (by kernel_rfl) rfl #[.int .i64 ((rd_T43 l0 x3_1).f0)] (by rfl) rfl rfl zG ?_
        with_reducible refine (spec_IsReserved.calls ((rd_T43 l0 x3_1).f0) false _ A6.out).mono ?_
        rintro e w' ⟨rfl, ⟨nd, rfl⟩⟩
        refine ⟨_, rfl, ?_⟩
        refine hK.out _ _ ⟨(hL HB hw127_0), (hL HB hw127_1), (hL HB hw127_2), (hL HB hw129_0), (hL HB hw129_1), (hL HB hw129_2), (hL HB hw131_0), (hL HB hw131_1), (hL HB hw131_2)⟩ (fun hHeld => ?_)
        clear hK K
        refine norm_ (a' := ?_) ?_ ?_
        rotate_left
        ·show Act.put _ (some 23) _ = _
         simp only [Act.put, List.setIfInBounds_toArray, List.set_cons_zero, List.set_cons_succ, i64_w, i32_w]
         rfl
        refine pU 14 (some 24) (bm 42 32767) HT_ rfl rfl ?_
        refine pU 15 (some 25) (bm 42 65535) HT_ rfl rfl ?_
        refine pU 16 (some 26) (bm 42 131071) HT_ rfl rfl ?_
        refine pU 17 (some 27) (bm 42 262143) HT_ rfl rfl ?_
        refine pU 18 (some 28) (bm 42 524287) HT_ rfl rfl ?_
        refine pU 19 (some 29) (bm 42 1048575) HT_ rfl rfl ?_
        refine tU 20 (some 30) (bm 42 2097151) HT_ HW_ rfl rfl hHeld ?_
        refine one_ (i := 21) (N := some 31) (bm 42 4194303) rfl rfl (one_of HT_.out (by kernel_rfl)) (by decide) (fun K hK => ?_)
        refine goes_ Try.func24 (by kernel_rfl) rfl #[.int .i64 ((rd_T43 l0 x3_1).f1), .int .i64 0, .int .i64 9] (by rfl) rfl rfl zG ?_
        with_reducible refine (spec_l1In.calls ((rd_T43 l0 x3_1).f1) 0 9 true _ A9.out).mono ?_
        rintro e w' ⟨rfl, ⟨nd, rfl⟩⟩
        refine ⟨_, rfl, ?_⟩
        refine hK.out _ _ ⟨(hL HB hw127_0), (hL HB hw127_1), (hL HB hw127_2), (hL HB hw129_0), (hL HB hw129_1), (hL HB hw129_2), (hL HB hw131_0), (hL HB hw131_1), (hL HB hw131_2)⟩ (fun hHeld => ?_)
        clear hK K
        refine norm_ (a' := ?_) ?_ ?_
        rotate_left
        ·show Act.put _ (some 31) _ = _
         simp only [Act.put, List.setIfInBounds_toArray, List.set_cons_zero, List.set_cons_succ, i64_w, i32_w]
         rfl
        refine pU 22 (some 32) (bm 42 8388607) HT_ rfl rfl ?_
        refine pU 23 (some 33) (bm 42 16777215) HT_ rfl rfl ?_
        refine pU 24 (some 34) (bm 42 33554431) HT_ rfl rfl ?_
        refine pU 25 (some 35) (bm 42 67108863) HT_ rfl rfl ?_
        refine pU 26 (some 36) (bm 42 134217727) HT_ rfl rfl ?_
        refine pU 27 (some 37) (bm 42 268435455) HT_ rfl rfl ?_
        refine pV 28 (some 38) (bm 42 536870911) HT_ rfl rfl ?_
        refine pV 29 (some 39) (bm 42 1073741823) HT_ rfl rfl ?_
        refine pV 30 (some 40) (bm 42 2147483647) HT_ rfl rfl ?_
        refine pV 31 (some 41) (bm 42 4294967295) HT_ rfl rfl ?_
        refine pV 32 (some 42) (bm 42 8589934591) HT_ rfl rfl ?_
        refine pV 33 (some 43) (bm 42 17179869183) HT_ rfl rfl ?_
        refine pV 34 (some 44) (bm 42 34359738367) HT_ rfl rfl ?_
        refine pV 35 (some 45) (bm 42 68719476735) HT_ rfl rfl ?_
        refine pV 36 (some 46) (bm 42 137438953471) HT_ rfl rfl ?_
        refine pV 37 (some 47) (bm 42 274877906943) HT_ rfl rfl ?_
        refine pV 38 (some 48) (bm 42 549755813887) HT_ rfl rfl ?_
        refine pV 39 (some 49) (bm 42 1099511627775) HT_ rfl rfl ?_
        refine pU 40 (some 50) (bm 42 2199023255551) HT_ rfl rfl ?_
        refine pU 41 (some 51) (bm 42 4398046511103) HT_ rfl rfl ?_
        refine done_ (done_of HT_.out (by kernel_rfl)) ?_
        try clear hHeld
        try go_wp2
        go_roundg k1
        case measure => have := HK1.out; omega
        case rel => exact ⟨(wrap64 (x3_1 + 1)), zF, H', ⟨by have := HK1.out; omega⟩, ⟨zB HB⟩⟩
      ·replace c10 := Bool.eq_false_iff.mpr c10
       subst c10
       have H1 : (some false) = some r := by rw [if_neg (show ¬ (false = true) by decide)] at H; exact H
       clear H
       have H := H1
       clear H1
       obtain rfl := Option.some.inj H
       try go_wp2
       replace HB := Aside0.mk (below_drew1 HB.out)
       have p127 : 0 ≤ (x3_1 : Int) := zD
       have q127 : x3_1 < (l0.length : Int) := zD
       obtain ⟨ad127, e127, hx127_0, hx127_1, hx127_2⟩ := at_T43 HR0.out x3_1 p127 q127
       have hw127_2 := hx127_2
       have hw127_1 := hx127_1
       have hw127_0 := hx127_0
       cases e127
       replace hx127_0 := hL HB hx127_0
       replace hx127_1 := hL HB hx127_1
       replace hx127_2 := hL HB hx127_2
       replace p127 := eq_true p127
       replace q127 := eq_true q127
       have p129 : 0 ≤ (x3_1 : Int) := zD
       have q129 : x3_1 < (l0.length : Int) := zD
       obtain ⟨ad129, e129, hx129_0, hx129_1, hx129_2⟩ := at_T43 HR0.out x3_1 p129 q129
       have hw129_2 := hx129_2
       have hw129_1 := hx129_1
       have hw129_0 := hx129_0
       obtain rfl : ad127 = ad129 := (by injection e129)
       replace hx129_0 := hL HB hx129_0
       replace hx129_1 := hL HB hx129_1
       replace hx129_2 := hL HB hx129_2
       replace p129 := eq_true p129
       replace q129 := eq_true q129
       have p131 : 0 ≤ (x3_1 : Int) := zD
       have q131 : x3_1 < (l0.length : Int) := zD
       obtain ⟨ad131, e131, hx131_0, hx131_1, hx131_2⟩ := at_T43 HR0.out x3_1 p131 q131
       have hw131_2 := hx131_2
       have hw131_1 := hx131_1
       have hw131_0 := hx131_0
       obtain rfl : ad127 = ad131 := (by injection e131)
       replace hx131_0 := hL HB hx131_0
       replace hx131_1 := hL HB hx131_1
       replace hx131_2 := hL HB hx131_2
       replace p131 := eq_true p131
       replace q131 := eq_true q131
       refine start_ (n := 42) (S := fun w' => w'.cell? (ad127.add ((x3_1).toNat * 3)) = some (.int .i64 ((rd_T43 l0 x3_1).f0)) ∧ w'.cell? ⟨(ad127.add ((x3_1).toNat * 3)).block, (ad127.add ((x3_1).toNat * 3)).off + 1, none⟩ = some (.int .i64 ((rd_T43 l0 x3_1).f1)) ∧ w'.cell? ⟨(ad127.add ((x3_1).toNat * 3)).block, (ad127.add ((x3_1).toNat * 3)).off + 2, none⟩ = some (.bool ((rd_T43 l0 x3_1).f2)) ∧ w'.cell? (ad127.add ((x3_1).toNat * 3)) = some (.int .i64 ((rd_T43 l0 x3_1).f0)) ∧ w'.cell? ⟨(ad127.add ((x3_1).toNat * 3)).block, (ad127.add ((x3_1).toNat * 3)).off + 1, none⟩ = some (.int .i64 ((rd_T43 l0 x3_1).f1)) ∧ w'.cell? ⟨(ad127.add ((x3_1).toNat * 3)).block, (ad127.add ((x3_1).toNat * 3)).off + 2, none⟩ = some (.bool ((rd_T43 l0 x3_1).f2)) ∧ w'.cell? (ad127.add ((x3_1).toNat * 3)) = some (.int .i64 ((rd_T43 l0 x3_1).f0)) ∧ w'.cell? ⟨(ad127.add ((x3_1).toNat * 3)).block, (ad127.add ((x3_1).toNat * 3)).off + 1, none⟩ = some (.int .i64 ((rd_T43 l0 x3_1).f1)) ∧ w'.cell? ⟨(ad127.add ((x3_1).toNat * 3)).block, (ad127.add ((x3_1).toNat * 3)).off + 2, none⟩ = some (.bool ((rd_T43 l0 x3_1).f2))) (ds := []) (bm 42 0) (by kernel_rfl) rfl (bm0 _) ⟨(hL HB hw127_0), (hL HB hw127_1), (hL HB hw127_2), (hL HB hw129_0), (hL HB hw129_1), (hL HB hw129_2), (hL HB hw131_0), (hL HB hw131_1), (hL HB hw131_2)⟩ (fun hHeld => ?_); refine with_tabW spec_IsRegistry.tab4 spec_IsRegistry.bits4 (fun HT_ HW_ => ?_)
       generalize wr.drew = w19 at HB hx127_0 hx127_1 hx127_2 hx129_0 hx129_1 hx129_2 hx131_0 hx131_1 hx131_2 hHeld ⊢
       refine pU 0 (some 10) (bm 42 1) HT_ rfl rfl ?_
       refine pU 1 (some 11) (bm 42 3) HT_ rfl rfl ?_
       refine pU 2 (some 12) (bm 42 7) HT_ rfl rfl ?_
       refine pU 3 (some 13) (bm 42 15) HT_ rfl rfl ?_
       refine tU 4 (some 14) (bm 42 31) HT_ HW_ rfl rfl hHeld ?_
       refine one_ (i := 5) (N := some 15) (bm 42 63) rfl rfl (one_of HT_.out (by kernel_rfl)) (by decide) (fun K hK => ?_)
       refine goes_ Try.func24 (by kernel_rfl) rfl #[.int .i64 ((rd_T43 l0 x3_1).f0), .int .i64 0, .int .i64 255] (by rfl) rfl rfl zG ?_
       with_reducible refine (spec_l1In.calls ((rd_T43 l0 x3_1).f0) 0 255 true _ A4.out).mono ?_
       rintro e w' ⟨rfl, ⟨nd, rfl⟩⟩
       refine ⟨_, rfl, ?_⟩
       refine hK.out _ _ ⟨(hL HB hw127_0), (hL HB hw127_1), (hL HB hw127_2), (hL HB hw129_0), (hL HB hw129_1), (hL HB hw129_2), (hL HB hw131_0), (hL HB hw131_1), (hL HB hw131_2)⟩ (fun hHeld => ?_)
       clear hK K
       refine norm_ (a' := ?_) ?_ ?_
       rotate_left
       ·show Act.put _ (some 15) _ = _
        simp only [Act.put, List.setIfInBounds_toArray, List.set_cons_zero, List.set_cons_succ, i64_w, i32_w]
        rfl
       refine pU 6 (some 16) (bm 42 127) HT_ rfl rfl ?_
       refine pU 7 (some 17) (bm 42 255) HT_ rfl rfl ?_
       refine pU 8 (some 18) (bm 42 511) HT_ rfl rfl ?_
       refine pU 9 (some 19) (bm 42 1023) HT_ rfl rfl ?_
       refine pU 10 (some 20) (bm 42 2047) HT_ rfl rfl ?_
       refine pU 11 (some 21) (bm 42 4095) HT_ rfl rfl ?_
       refine tU 12 (some 22) (bm 42 8191) HT_ HW_ rfl rfl hHeld ?_
       refine one_ (i := 13) (N := some 23) (bm 42 16383) rfl rfl (one_of HT_.out (by kernel_rfl)) (by decide) (fun K hK => ?_)
       refine goes_ Try.func25 (by kernel_rfl) rfl #[.int .i64 ((rd_T43 l0 x3_1).f0)] (by rfl) rfl rfl zG ?_
       with_reducible refine (spec_IsReserved.calls ((rd_T43 l0 x3_1).f0) false _ A6.out).mono ?_
       rintro e w' ⟨rfl, ⟨nd, rfl⟩⟩
       refine ⟨_, rfl, ?_⟩
       refine hK.out _ _ ⟨(hL HB hw127_0), (hL HB hw127_1), (hL HB hw127_2), (hL HB hw129_0), (hL HB hw129_1), (hL HB hw129_2), (hL HB hw131_0), (hL HB hw131_1), (hL HB hw131_2)⟩ (fun hHeld => ?_)
       clear hK K
       refine norm_ (a' := ?_) ?_ ?_
       rotate_left
       ·show Act.put _ (some 23) _ = _
        simp only [Act.put, List.setIfInBounds_toArray, List.set_cons_zero, List.set_cons_succ, i64_w, i32_w]
        rfl
       refine pU 14 (some 24) (bm 42 32767) HT_ rfl rfl ?_
       refine pU 15 (some 25) (bm 42 65535) HT_ rfl rfl ?_
       refine pU 16 (some 26) (bm 42 131071) HT_ rfl rfl ?_
       refine pU 17 (some 27) (bm 42 262143) HT_ rfl rfl ?_
       refine pU 18 (some 28) (bm 42 524287) HT_ rfl rfl ?_
       refine pU 19 (some 29) (bm 42 1048575) HT_ rfl rfl ?_
       refine tU 20 (some 30) (bm 42 2097151) HT_ HW_ rfl rfl hHeld ?_
       refine one_ (i := 21) (N := some 31) (bm 42 4194303) rfl rfl (one_of HT_.out (by kernel_rfl)) (by decide) (fun K hK => ?_)
       refine goes_ Try.func24 (by kernel_rfl) rfl #[.int .i64 ((rd_T43 l0 x3_1).f1), .int .i64 0, .int .i64 9] (by rfl) rfl rfl zG ?_
       with_reducible refine (spec_l1In.calls ((rd_T43 l0 x3_1).f1) 0 9 false _ A9.out).mono ?_
       rintro e w' ⟨rfl, ⟨nd, rfl⟩⟩
       refine ⟨_, rfl, ?_⟩
       refine hK.out _ _ ⟨(hL HB hw127_0), (hL HB hw127_1), (hL HB hw127_2), (hL HB hw129_0), (hL HB hw129_1), (hL HB hw129_2), (hL HB hw131_0), (hL HB hw131_1), (hL HB hw131_2)⟩ (fun hHeld => ?_)
       clear hK K
       refine norm_ (a' := ?_) ?_ ?_
       rotate_left
       ·show Act.put _ (some 31) _ = _
        simp only [Act.put, List.setIfInBounds_toArray, List.set_cons_zero, List.set_cons_succ, i64_w, i32_w]
        rfl
       refine pU 22 (some 32) (bm 42 8388607) HT_ rfl rfl ?_
       refine pU 23 (some 33) (bm 42 16777215) HT_ rfl rfl ?_
       refine pU 24 (some 34) (bm 42 33554431) HT_ rfl rfl ?_
       refine pV 25 (some 35) (bm 42 67108863) HT_ rfl rfl ?_
       refine pV 26 (some 36) (bm 42 134217727) HT_ rfl rfl ?_
       refine pV 27 (some 37) (bm 42 268435455) HT_ rfl rfl ?_
       refine pV 28 (some 38) (bm 42 536870911) HT_ rfl rfl ?_
       refine pV 29 (some 39) (bm 42 1073741823) HT_ rfl rfl ?_
       refine pV 30 (some 40) (bm 42 2147483647) HT_ rfl rfl ?_
       refine pV 31 (some 41) (bm 42 4294967295) HT_ rfl rfl ?_
       refine pV 32 (some 42) (bm 42 8589934591) HT_ rfl rfl ?_
       refine pV 33 (some 43) (bm 42 17179869183) HT_ rfl rfl ?_
       refine pV 34 (some 44) (bm 42 34359738367) HT_ rfl rfl ?_
       refine pV 35 (some 45) (bm 42 68719476735) HT_ rfl rfl ?_
       refine pV 36 (some 46) (bm 42 137438953471) HT_ rfl rfl ?_
       refine pV 37 (some 47) (bm 42 274877906943) HT_ rfl rfl ?_
       refine pV 38 (some 48) (bm 42 549755813887) HT_ rfl rfl ?_
       refine pV 39 (some 49) (bm 42 1099511627775) HT_ rfl rfl ?_
       refine pV 40 (some 50) (bm 42 2199023255551) HT_ rfl rfl ?_
       refine pU 41 (some 51) (bm 42 4398046511103) HT_ rfl rfl ?_
       refine done_ (done_of HT_.out (by kernel_rfl)) ?_
       try clear hHeld
       try go_wp2
       go_ret
       exact ⟨zE, zB HB⟩
    ·replace c5 := Bool.eq_false_iff.mpr c5
     subst c5
     have H1 : (some false) = some r := by rw [if_neg (show ¬ (false = true) by decide)] at H; exact H
     clear H
     have H := H1
     clear H1
     obtain rfl := Option.some.inj H
     try go_wp2
     replace HB := Aside0.mk (below_drew1 HB.out)
     have p127 : 0 ≤ (x3_1 : Int) := zD
     have q127 : x3_1 < (l0.length : Int) := zD
     obtain ⟨ad127, e127, hx127_0, hx127_1, hx127_2⟩ := at_T43 HR0.out x3_1 p127 q127
     have hw127_2 := hx127_2
     have hw127_1 := hx127_1
     have hw127_0 := hx127_0
     cases e127
     replace hx127_0 := hL HB hx127_0
     replace hx127_1 := hL HB hx127_1
     replace hx127_2 := hL HB hx127_2
     replace p127 := eq_true p127
     replace q127 := eq_true q127
     refine start_ (n := 42) (S := fun w' => w'.cell? (ad127.add ((x3_1).toNat * 3)) = some (.int .i64 ((rd_T43 l0 x3_1).f0)) ∧ w'.cell? ⟨(ad127.add ((x3_1).toNat * 3)).block, (ad127.add ((x3_1).toNat * 3)).off + 1, none⟩ = some (.int .i64 ((rd_T43 l0 x3_1).f1)) ∧ w'.cell? ⟨(ad127.add ((x3_1).toNat * 3)).block, (ad127.add ((x3_1).toNat * 3)).off + 2, none⟩ = some (.bool ((rd_T43 l0 x3_1).f2))) (ds := []) (bm 42 0) (by kernel_rfl) rfl (bm0 _) ⟨(hL HB hw127_0), (hL HB hw127_1), (hL HB hw127_2)⟩ (fun hHeld => ?_); refine with_tabW spec_IsRegistry.tab4 spec_IsRegistry.bits4 (fun HT_ HW_ => ?_)
     generalize wr.drew = w20 at HB hx127_0 hx127_1 hx127_2 hHeld ⊢
     refine pU 0 (some 10) (bm 42 1) HT_ rfl rfl ?_
     refine pU 1 (some 11) (bm 42 3) HT_ rfl rfl ?_
     refine pU 2 (some 12) (bm 42 7) HT_ rfl rfl ?_
     refine pU 3 (some 13) (bm 42 15) HT_ rfl rfl ?_
     refine tU 4 (some 14) (bm 42 31) HT_ HW_ rfl rfl hHeld ?_
     refine one_ (i := 5) (N := some 15) (bm 42 63) rfl rfl (one_of HT_.out (by kernel_rfl)) (by decide) (fun K hK => ?_)
     refine goes_ Try.func24 (by kernel_rfl) rfl #[.int .i64 ((rd_T43 l0 x3_1).f0), .int .i64 0, .int .i64 255] (by rfl) rfl rfl zG ?_
     with_reducible refine (spec_l1In.calls ((rd_T43 l0 x3_1).f0) 0 255 false _ A4.out).mono ?_
     rintro e w' ⟨rfl, ⟨nd, rfl⟩⟩
     refine ⟨_, rfl, ?_⟩
     refine hK.out _ _ ⟨(hL HB hw127_0), (hL HB hw127_1), (hL HB hw127_2)⟩ (fun hHeld => ?_)
     clear hK K
     refine norm_ (a' := ?_) ?_ ?_
     rotate_left
     ·show Act.put _ (some 15) _ = _
      simp only [Act.put, List.setIfInBounds_toArray, List.set_cons_zero, List.set_cons_succ, i64_w, i32_w]
      rfl
     refine pU 6 (some 16) (bm 42 127) HT_ rfl rfl ?_
     refine pU 7 (some 17) (bm 42 255) HT_ rfl rfl ?_
     refine pV 8 (some 18) (bm 42 511) HT_ rfl rfl ?_
     refine pV 9 (some 19) (bm 42 1023) HT_ rfl rfl ?_
     refine pV 10 (some 20) (bm 42 2047) HT_ rfl rfl ?_
     refine pV 11 (some 21) (bm 42 4095) HT_ rfl rfl ?_
     refine pV 12 (some 22) (bm 42 8191) HT_ rfl rfl ?_
     refine pV 13 (some 23) (bm 42 16383) HT_ rfl rfl ?_
     refine pU 14 (some 24) (bm 42 32767) HT_ rfl rfl ?_
     refine pU 15 (some 25) (bm 42 65535) HT_ rfl rfl ?_
     refine pV 16 (some 26) (bm 42 131071) HT_ rfl rfl ?_
     refine pV 17 (some 27) (bm 42 262143) HT_ rfl rfl ?_
     refine pV 18 (some 28) (bm 42 524287) HT_ rfl rfl ?_
     refine pV 19 (some 29) (bm 42 1048575) HT_ rfl rfl ?_
     refine pV 20 (some 30) (bm 42 2097151) HT_ rfl rfl ?_
     refine pV 21 (some 31) (bm 42 4194303) HT_ rfl rfl ?_
     refine pV 22 (some 32) (bm 42 8388607) HT_ rfl rfl ?_
     refine pU 23 (some 33) (bm 42 16777215) HT_ rfl rfl ?_
     refine pU 24 (some 34) (bm 42 33554431) HT_ rfl rfl ?_
     refine pV 25 (some 35) (bm 42 67108863) HT_ rfl rfl ?_
     refine pV 26 (some 36) (bm 42 134217727) HT_ rfl rfl ?_
     refine pV 27 (some 37) (bm 42 268435455) HT_ rfl rfl ?_
     refine pV 28 (some 38) (bm 42 536870911) HT_ rfl rfl ?_
     refine pV 29 (some 39) (bm 42 1073741823) HT_ rfl rfl ?_
     refine pV 30 (some 40) (bm 42 2147483647) HT_ rfl rfl ?_
     refine pV 31 (some 41) (bm 42 4294967295) HT_ rfl rfl ?_
     refine pV 32 (some 42) (bm 42 8589934591) HT_ rfl rfl ?_
     refine pV 33 (some 43) (bm 42 17179869183) HT_ rfl rfl ?_
     refine pV 34 (some 44) (bm 42 34359738367) HT_ rfl rfl ?_
     refine pV 35 (some 45) (bm 42 68719476735) HT_ rfl rfl ?_
     refine pV 36 (some 46) (bm 42 137438953471) HT_ rfl rfl ?_
     refine pV 37 (some 47) (bm 42 274877906943) HT_ rfl rfl ?_
     refine pV 38 (some 48) (bm 42 549755813887) HT_ rfl rfl ?_
     refine pV 39 (some 49) (bm 42 1099511627775) HT_ rfl rfl ?_
     refine pV 40 (some 50) (bm 42 2199023255551) HT_ rfl rfl ?_
     refine pU 41 (some 51) (bm 42 4398046511103) HT_ rfl rfl ?_
     refine done_ (done_of HT_.out (by kernel_rfl)) ?_
     try clear hHeld
     try go_wp2
     go_ret
     exact ⟨zE, zB HB⟩
   ·rw [if_neg c2] at H
    have c2b0 : decide (x3_1 < (l0.length : Int)) = false := decide_eq_false c2
    clear c2
    obtain rfl := Option.some.inj H
    go_wp2
    go_ret
    exact ⟨zE, zB HB⟩

end Go.Proofs.Ytgbfbdeeaogigaa.PFnRegistry
