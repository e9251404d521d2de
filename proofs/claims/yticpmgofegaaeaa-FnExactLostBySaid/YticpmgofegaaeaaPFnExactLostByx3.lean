-- WRITTEN by pp.py, this session's own wrapper around the print; not trusted: Lean checks it
import Derived.Test.YticpmgofegaaeaaPFnExactLostByx0
import Derived.Test.YticpmgofegaaeaaPFnExactLostByx1
namespace Go.Proofs.Yticpmgofegaaeaa.PFnExactLostBy
open Go.RowKit Go.Proofs.Yticpmgofegaaeaa.Hw Go.Proofs.YticpmgofegaaeaaW.PrintWords Go.Proofs.YticpmgofegaaeaaW.PrintLast Go.Proofs.YticpmgofegaaeaaW.PrintMore
attribute [local go_sem] max2_int min2_int max_two min_two max_three min_three max_four min_four   -- for this text's walks alone
set_option linter.unusedVariables false
set_option linter.unusedSimpArgs false
set_option linter.unusedSectionVars false

/-! ### spec_IsThere: function 43 -/
def spec_IsThere.f (l0 : List (S47)) (l1 : List (S58)) (a2 : Int) : Option (Bool) := (spec_l1In.f a2 0 (wrap64 ((l0.length : Int) - 1))).bind fun t128 => (if t128 = true then (if 0 ≤ a2 then (if a2 < (l0.length : Int) then (if ((rd_T47 l0 a2).f2) = (-1) then (some true) else ((spec_l1In.f ((rd_T47 l0 a2).f2) 0 (wrap64 ((l1.length : Int) - 1))).bind fun t131 => (if t131 = true then (if 0 ≤ ((rd_T47 l0 a2).f2) then (if ((rd_T47 l0 a2).f2) < (l1.length : Int) then (some (((rd_T58 l1 ((rd_T47 l0 a2).f2)).f0) == ((rd_T47 l0 a2).f3))) else (none)) else (none)) else (some false)))) else (none)) else (none)) else (some false))
def spec_IsThere.T3 : Bool × List (List Nat × List Nat) := (true, [([], []), ([], []), ([0, 1], [0, 1]), ([2], [2]), ([3], [3]), ([4], [4]), ([5], [5]), ([6], [6]), ([6], [6]), ([7, 8, 6], [6, 7, 8]), ([9, 6], [6, 9]), ([10, 6], [6, 10]), ([6], [6]), ([12, 6], [6, 12]), ([13, 6], [6, 13]), ([11, 14, 6, 6], [6, 11, 14]), ([15, 15, 6], [6, 15]), ([16], [16]), ([16], [16]), ([16], [16]), ([18, 19, 16], [16, 18, 19]), ([20, 16], [16, 20]), ([21, 16], [16, 21]), ([17, 22, 16], [16, 17, 22]), ([23, 16], [16, 23]), ([24, 16], [16, 24]), ([16], [16]), ([16], [16]), ([26, 27, 16], [16, 26, 27]), ([28, 16], [16, 28]), ([29, 16], [16, 29]), ([25, 30, 16], [16, 25, 30]), ([16, 31, 6], [6, 16, 31]), ([6, 32], [6, 32]), ([33, 16, 0, 1, 2, 3, 4, 5, 6, 7, 8, 9, 10, 11, 12, 13, 14, 15, 16, 17, 18, 19, 20, 21, 22, 23, 24, 25, 26, 27, 28, 29, 30, 31, 32, 33], [33])])
def spec_IsThere.B3 : List Nat := [0, 0, 3, 7, 15, 31, 63, 127, 127, 511, 1023, 2047, 127, 4223, 12415, 32767, 65535, 131071, 131071, 131071, 917503, 1966079, 4063231, 8388607, 16777215, 33554431, 131071, 131071, 201457663, 469893119, 1006764031, 2147483647, 4294967295, 8589934591, 17179869183]
theorem spec_IsThere.tab3 : rtab .any (opsOf Try.f43 3) = spec_IsThere.T3 := by kernel_rfl
theorem spec_IsThere.bits3 : waitsOk spec_IsThere.T3.2 spec_IsThere.B3 = true := by kernel_rfl
set_option maxHeartbeats 8000000 in
set_option maxRecDepth 100000 in
theorem spec_IsThere.calls (A0 : Option Addr) (c0 : Nat) (l0 : List (S47)) (A1 : Option Addr) (c1 : Nat) (l1 : List (S58)) (a2 : Int) (r : Bool) (w : World) (hr0 : Kd.C k47 w A0 l0.length l0) (hc0 : l0.length ≤ c0) (hr1 : Kd.C k58 w A1 l1.length l1) (hc1 : l1.length ≤ c1) (h : spec_IsThere.f l0 l1 a2 = some r) :
  Calls Try.prog 43 #[.slice A0 l0.length c0, .slice A1 l1.length c1, .int .i64 a2] w fun e w' => e = .returned (.bool r) ∧ Below w.heap.size w w' := by
 have HR0 := Aside0.mk hr0
 have HC0 := Aside0.mk hc0
 clear hr0 hc0
 have HR1 := Aside0.mk hr1
 have HC1 := Aside0.mk hc1
 clear hr1 hc1
 have HB := Aside0.mk (Below.refl w.heap.size w)
 have H : ((spec_l1In.f a2 0 (wrap64 ((l0.length : Int) - 1))).bind fun t128 => (if t128 = true then (if 0 ≤ a2 then (if a2 < (l0.length : Int) then (if ((rd_T47 l0 a2).f2) = (-1) then (some true) else ((spec_l1In.f ((rd_T47 l0 a2).f2) 0 (wrap64 ((l1.length : Int) - 1))).bind fun t131 => (if t131 = true then (if 0 ≤ ((rd_T47 l0 a2).f2) then (if ((rd_T47 l0 a2).f2) < (l1.length : Int) then (some (((rd_T58 l1 ((rd_T47 l0 a2).f2)).f0) == ((rd_T47 l0 a2).f3))) else (none)) else (none)) else (some false)))) else (none)) else (none)) else (some false))) = some r := h
 clear h
 obtain ⟨t128, A4, H⟩ := bindS H
 by_cases c5 : t128 = true
 ·subst c5
  have H1 : (if 0 ≤ a2 then (if a2 < (l0.length : Int) then (if ((rd_T47 l0 a2).f2) = (-1) then (some true) else ((spec_l1In.f ((rd_T47 l0 a2).f2) 0 (wrap64 ((l1.length : Int) - 1))).bind fun t131 => (if t131 = true then (if 0 ≤ ((rd_T47 l0 a2).f2) then (if ((rd_T47 l0 a2).f2) < (l1.length : Int) then (some (((rd_T58 l1 ((rd_T47 l0 a2).f2)).f0) == ((rd_T47 l0 a2).f3))) else (none)) else (none)) else (some false)))) else (none)) else (none)) = some r := by rw [if_pos rfl] at H; exact H
  clear H
  have H := H1
  clear H1
  obtain ⟨c6, H⟩ := ifS H
  have c6b0 : decide (0 ≤ a2) = true := decide_eq_true c6
  clear c6
  obtain ⟨c7, H⟩ := ifS H
  have c7b0 : decide (a2 < (l0.length : Int)) = true := decide_eq_true c7
  clear c7
  by_cases c8 : ((rd_T47 l0 a2).f2) = (-1)
  ·rw [if_pos c8] at H
   have c8b0 : (((rd_T47 l0 a2).f2) == (-1)) = true := beq_iff_eq.mpr c8
   have c8b1 : (((rd_T47 l0 a2).f2) != (-1)) = false := bne_eq_false_iff_eq.mpr c8
   clear c8
   obtain rfl := Option.some.inj H
   go_enter Try.func43, Try.ntmps43
   try go_wp2_with (first | ((with_reducible refine gate_callee (f := 49) rfl ?_); refine goesL_ (some 11) rfl rfl Try.func49 (by kernel_rfl) rfl #[.int .i64 a2, .int .i64 0, .int .i64 (wrap64 ((l0.length : Int) - 1))] rfl zG ?_; (with_reducible refine (spec_l1In.calls a2 0 (wrap64 ((l0.length : Int) - 1)) true _ A4.out).mono ?_); rintro e w' ⟨rfl, ⟨nd, rfl⟩⟩; refine ⟨_, rfl, ?_⟩))
   try (obtain ⟨wn_, hwn_⟩ : ∃ x_ : World, x_ = w.drewN nd := ⟨_, rfl⟩; rw [← hwn_]; have hq_ := pw_below_drewN HB.out nd; rw [← hwn_] at hq_; replace HB := Aside0.mk hq_; clear hq_; clear hwn_)
   replace HB := Aside0.mk (below_drew1 HB.out)
   have p129 : 0 ≤ (a2 : Int) := zD
   have q129 : a2 < (l0.length : Int) := zD
   obtain ⟨ad129, e129, hx129_0, hx129_1, hx129_2, hx129_3⟩ := at_T47 HR0.out a2 p129 q129
   have hw129_3 := hx129_3
   have hw129_2 := hx129_2
   have hw129_1 := hx129_1
   have hw129_0 := hx129_0
   cases e129
   replace hx129_0 := hL HB hx129_0
   replace hx129_1 := hL HB hx129_1
   replace hx129_2 := hL HB hx129_2
   replace hx129_3 := hL HB hx129_3
   replace p129 := eq_true p129
   replace q129 := eq_true q129
   refine start_ (n := 35) (S := fun w' => w'.cell? (ad129.add ((a2).toNat * 4)) = some (.int .i64 ((rd_T47 l0 a2).f0)) ∧ w'.cell? ⟨(ad129.add ((a2).toNat * 4)).block, (ad129.add ((a2).toNat * 4)).off + 1, none⟩ = some (.int .i64 ((rd_T47 l0 a2).f1)) ∧ w'.cell? ⟨(ad129.add ((a2).toNat * 4)).block, (ad129.add ((a2).toNat * 4)).off + 2, none⟩ = some (.int .i64 ((rd_T47 l0 a2).f2)) ∧ w'.cell? ⟨(ad129.add ((a2).toNat * 4)).block, (ad129.add ((a2).toNat * 4)).off + 3, none⟩ = some (.int .i64 ((rd_T47 l0 a2).f3))) (ds := []) (bm 35 0) (by kernel_rfl) rfl (bm0 _) ⟨(hL HB hw129_0), (hL HB hw129_1), (hL HB hw129_2), (hL HB hw129_3)⟩ (fun hHeld => ?_); refine with_tabW spec_IsThere.tab3 spec_IsThere.bits3 (fun HT_ HW_ => ?_)
   first | (generalize wn_.drew = w9 at HB hx129_0 hx129_1 hx129_2 hx129_3 hHeld ⊢) | (generalize w.drew = w9 at HB hx129_0 hx129_1 hx129_2 hx129_3 hHeld ⊢)
   refine pU 0 (some 13) (bm 35 1) HT_ rfl rfl ?_
   refine pU 1 (some 14) (bm 35 3) HT_ rfl rfl ?_
   refine pU 2 (some 15) (bm 35 7) HT_ rfl rfl ?_
   refine pU 3 (some 16) (bm 35 15) HT_ rfl rfl ?_
   refine tU 4 (some 17) (bm 35 31) HT_ HW_ rfl rfl hHeld ?_
   refine pU 5 (some 18) (bm 35 63) HT_ rfl rfl ?_
   refine pU 6 (some 19) (bm 35 127) HT_ rfl rfl ?_
   refine pV 7 (some 20) (bm 35 255) HT_ rfl rfl ?_
   refine pV 8 (some 21) (bm 35 511) HT_ rfl rfl ?_
   refine pV 9 (some 22) (bm 35 1023) HT_ rfl rfl ?_
   refine pV 10 (some 23) (bm 35 2047) HT_ rfl rfl ?_
   refine pV 11 (some 24) (bm 35 4095) HT_ rfl rfl ?_
   refine pV 12 (some 25) (bm 35 8191) HT_ rfl rfl ?_
   refine pV 13 (some 26) (bm 35 16383) HT_ rfl rfl ?_
   refine pV 14 (some 27) (bm 35 32767) HT_ rfl rfl ?_
   refine pV 15 (some 28) (bm 35 65535) HT_ rfl rfl ?_
   refine pV 16 (some 29) (bm 35 131071) HT_ rfl rfl ?_
   refine pV 17 (some 30) (bm 35 262143) HT_ rfl rfl ?_
   refine pV 18 (some 31) (bm 35 524287) HT_ rfl rfl ?_
   refine pV 19 (some 32) (bm 35 1048575) HT_ rfl rfl ?_
   refine pV 20 (some 33) (bm 35 2097151) HT_ rfl rfl ?_
   refine pV 21 (some 34) (bm 35 4194303) HT_ rfl rfl ?_
   refine pV 22 (some 35) (bm 35 8388607) HT_ rfl rfl ?_
   refine pV 23 (some 36) (bm 35 16777215) HT_ rfl rfl ?_
   refine pV 24 (some 37) (bm 35 33554431) HT_ rfl rfl ?_
   refine pV 25 (some 38) (bm 35 67108863) HT_ rfl rfl ?_
   refine pV 26 (some 39) (bm 35 134217727) HT_ rfl rfl ?_
   refine pV 27 (some 40) (bm 35 268435455) HT_ rfl rfl ?_
   refine pV 28 (some 41) (bm 35 536870911) HT_ rfl rfl ?_
   refine pV 29 (some 42) (bm 35 1073741823) HT_ rfl rfl ?_
   refine pV 30 (some 43) (bm 35 2147483647) HT_ rfl rfl ?_
   refine pV 31 (some 44) (bm 35 4294967295) HT_ rfl rfl ?_
   refine pV 32 (some 45) (bm 35 8589934591) HT_ rfl rfl ?_
   refine pU 33 (some 46) (bm 35 17179869183) HT_ rfl rfl ?_
   refine pU 34 (some 6) (bm 35 34359738367) HT_ rfl rfl ?_
   refine done_ (done_of HT_.out (by kernel_rfl)) ?_
   try clear hHeld
   try go_wp2
   go_ret
   exact ⟨zE, zB HB⟩
  ·rw [if_neg c8] at H
   have c8b0 : (((rd_T47 l0 a2).f2) == (-1)) = false := beq_eq_false_iff_ne.mpr c8
   have c8b1 : (((rd_T47 l0 a2).f2) != (-1)) = true := bne_iff_ne.mpr c8
   obtain ⟨t131, A10, H⟩ := bindS H
   by_cases c11 : t131 = true
   ·subst c11
    have H1 : (if 0 ≤ ((rd_T47 l0 a2).f2) then (if ((rd_T47 l0 a2).f2) < (l1.length : Int) then (some (((rd_T58 l1 ((rd_T47 l0 a2).f2)).f0) == ((rd_T47 l0 a2).f3))) else (none)) else (none)) = some r := by rw [if_pos rfl] at H; exact H
    clear H
    have H := H1
    clear H1
    obtain ⟨c12, H⟩ := ifS H
    have c12b0 : decide (0 ≤ ((rd_T47 l0 a2).f2)) = true := decide_eq_true c12
    clear c12
    obtain ⟨c13, H⟩ := ifS H
    have c13b0 : decide (((rd_T47 l0 a2).f2) < (l1.length : Int)) = true := decide_eq_true c13
    clear c13
    obtain rfl := Option.some.inj H
    go_enter Try.func43, Try.ntmps43
    try go_wp2_with (first | ((with_reducible refine gate_callee (f := 49) rfl ?_); refine goesL_ (some 11) rfl rfl Try.func49 (by kernel_rfl) rfl #[.int .i64 a2, .int .i64 0, .int .i64 (wrap64 ((l0.length : Int) - 1))] rfl zG ?_; (with_reducible refine (spec_l1In.calls a2 0 (wrap64 ((l0.length : Int) - 1)) true _ A4.out).mono ?_); rintro e w' ⟨rfl, ⟨nd, rfl⟩⟩; refine ⟨_, rfl, ?_⟩))
    try (obtain ⟨wn_, hwn_⟩ : ∃ x_ : World, x_ = w.drewN nd := ⟨_, rfl⟩; rw [← hwn_]; have hq_ := pw_below_drewN HB.out nd; rw [← hwn_] at hq_; replace HB := Aside0.mk hq_; clear hq_; clear hwn_)
    replace HB := Aside0.mk (below_drew1 HB.out)
    have p129 : 0 ≤ (a2 : Int) := zD
    have q129 : a2 < (l0.length : Int) := zD
    obtain ⟨ad129, e129, hx129_0, hx129_1, hx129_2, hx129_3⟩ := at_T47 HR0.out a2 p129 q129
    have hw129_3 := hx129_3
    have hw129_2 := hx129_2
    have hw129_1 := hx129_1
    have hw129_0 := hx129_0
    cases e129
    replace hx129_0 := hL HB hx129_0
    replace hx129_1 := hL HB hx129_1
    replace hx129_2 := hL HB hx129_2
    replace hx129_3 := hL HB hx129_3
    replace p129 := eq_true p129
    replace q129 := eq_true q129
    have p130 : 0 ≤ (a2 : Int) := zD
    have q130 : a2 < (l0.length : Int) := zD
    obtain ⟨ad130, e130, hx130_0, hx130_1, hx130_2, hx130_3⟩ := at_T47 HR0.out a2 p130 q130
    have hw130_3 := hx130_3
    have hw130_2 := hx130_2
    have hw130_1 := hx130_1
    have hw130_0 := hx130_0
    obtain rfl : ad129 = ad130 := (by injection e130)
    replace hx130_0 := hL HB hx130_0
    replace hx130_1 := hL HB hx130_1
    replace hx130_2 := hL HB hx130_2
    replace hx130_3 := hL HB hx130_3
    replace p130 := eq_true p130
    replace q130 := eq_true q130
    have p132 : 0 ≤ (a2 : Int) := zD
    have q132 : a2 < (l0.length : Int) := zD
    obtain ⟨ad132, e132, hx132_0, hx132_1, hx132_2, hx132_3⟩ := at_T47 HR0.out a2 p132 q132
    have hw132_3 := hx132_3
    have hw132_2 := hx132_2
    have hw132_1 := hx132_1
    have hw132_0 := hx132_0
    obtain rfl : ad129 = ad132 := (by injection e132)
    replace hx132_0 := hL HB hx132_0
    replace hx132_1 := hL HB hx132_1
    replace hx132_2 := hL HB hx132_2
    replace hx132_3 := hL HB hx132_3
    replace p132 := eq_true p132
    replace q132 := eq_true q132
    have p133 : 0 ≤ (((rd_T47 l0 a2).f2) : Int) := zD
    have q133 : ((rd_T47 l0 a2).f2) < (l1.length : Int) := zD
    obtain ⟨ad133, A133_1, c133_1, e133, hx133_0, hx133_1, hl133_1, hi133_1⟩ := at_T58 HR1.out ((rd_T47 l0 a2).f2) p133 q133
    have hw133_1 := hx133_1
    have hw133_0 := hx133_0
    cases e133
    replace hx133_0 := hL HB hx133_0
    replace hx133_1 := hL HB hx133_1
    have HR133_1 := Aside0.mk hi133_1
    have HC133_1 := Aside0.mk hl133_1
    clear hi133_1 hl133_1
    replace p133 := eq_true p133
    replace q133 := eq_true q133
    have p134 : 0 ≤ (a2 : Int) := zD
    have q134 : a2 < (l0.length : Int) := zD
    obtain ⟨ad134, e134, hx134_0, hx134_1, hx134_2, hx134_3⟩ := at_T47 HR0.out a2 p134 q134
    have hw134_3 := hx134_3
    have hw134_2 := hx134_2
    have hw134_1 := hx134_1
    have hw134_0 := hx134_0
    obtain rfl : ad129 = ad134 := (by injection e134)
    replace hx134_0 := hL HB hx134_0
    replace hx134_1 := hL HB hx134_1
    replace hx134_2 := hL HB hx134_2
    replace hx134_3 := hL HB hx134_3
    replace p134 := eq_true p134
    replace q134 := eq_true q134
    refine start_ (n := 35) (S := fun w' => w'.cell? (ad129.add ((a2).toNat * 4)) = some (.int .i64 ((rd_T47 l0 a2).f0)) ∧ w'.cell? ⟨(ad129.add ((a2).toNat * 4)).block, (ad129.add ((a2).toNat * 4)).off + 1, none⟩ = some (.int .i64 ((rd_T47 l0 a2).f1)) ∧ w'.cell? ⟨(ad129.add ((a2).toNat * 4)).block, (ad129.add ((a2).toNat * 4)).off + 2, none⟩ = some (.int .i64 ((rd_T47 l0 a2).f2)) ∧ w'.cell? ⟨(ad129.add ((a2).toNat * 4)).block, (ad129.add ((a2).toNat * 4)).off + 3, none⟩ = some (.int .i64 ((rd_T47 l0 a2).f3)) ∧ w'.cell? (ad129.add ((a2).toNat * 4)) = some (.int .i64 ((rd_T47 l0 a2).f0)) ∧ w'.cell? ⟨(ad129.add ((a2).toNat * 4)).block, (ad129.add ((a2).toNat * 4)).off + 1, none⟩ = some (.int .i64 ((rd_T47 l0 a2).f1)) ∧ w'.cell? ⟨(ad129.add ((a2).toNat * 4)).block, (ad129.add ((a2).toNat * 4)).off + 2, none⟩ = some (.int .i64 ((rd_T47 l0 a2).f2)) ∧ w'.cell? ⟨(ad129.add ((a2).toNat * 4)).block, (ad129.add ((a2).toNat * 4)).off + 3, none⟩ = some (.int .i64 ((rd_T47 l0 a2).f3)) ∧ w'.cell? (ad129.add ((a2).toNat * 4)) = some (.int .i64 ((rd_T47 l0 a2).f0)) ∧ w'.cell? ⟨(ad129.add ((a2).toNat * 4)).block, (ad129.add ((a2).toNat * 4)).off + 1, none⟩ = some (.int .i64 ((rd_T47 l0 a2).f1)) ∧ w'.cell? ⟨(ad129.add ((a2).toNat * 4)).block, (ad129.add ((a2).toNat * 4)).off + 2, none⟩ = some (.int .i64 ((rd_T47 l0 a2).f2)) ∧ w'.cell? ⟨(ad129.add ((a2).toNat * 4)).block, (ad129.add ((a2).toNat * 4)).off + 3, none⟩ = some (.int .i64 ((rd_T47 l0 a2).f3)) ∧ w'.cell? (ad133.add ((((rd_T47 l0 a2).f2)).toNat * 2)) = some (.int .i64 ((rd_T58 l1 ((rd_T47 l0 a2).f2)).f0)) ∧ w'.cell? ⟨(ad133.add ((((rd_T47 l0 a2).f2)).toNat * 2)).block, (ad133.add ((((rd_T47 l0 a2).f2)).toNat * 2)).off + 1, none⟩ = some (.slice A133_1 ((rd_T58 l1 ((rd_T47 l0 a2).f2)).f1).length c133_1) ∧ w'.cell? (ad129.add ((a2).toNat * 4)) = some (.int .i64 ((rd_T47 l0 a2).f0)) ∧ w'.cell? ⟨(ad129.add ((a2).toNat * 4)).block, (ad129.add ((a2).toNat * 4)).off + 1, none⟩ = some (.int .i64 ((rd_T47 l0 a2).f1)) ∧ w'.cell? ⟨(ad129.add ((a2).toNat * 4)).block, (ad129.add ((a2).toNat * 4)).off + 2, none⟩ = some (.int .i64 ((rd_T47 l0 a2).f2)) ∧ w'.cell? ⟨(ad129.add ((a2).toNat * 4)).block, (ad129.add ((a2).toNat * 4)).off + 3, none⟩ = some (.int .i64 ((rd_T47 l0 a2).f3))) (ds := []) (bm 35 0) (by kernel_rfl) rfl (bm0 _) ⟨(hL HB hw129_0), (hL HB hw129_1), (hL HB hw129_2), (hL HB hw129_3), (hL HB hw130_0), (hL HB hw130_1), (hL HB hw130_2), (hL HB hw130_3), (hL HB hw132_0), (hL HB hw132_1), (hL HB hw132_2), (hL HB hw132_3), (hL HB hw133_0), (hL HB hw133_1), (hL HB hw134_0), (hL HB hw134_1), (hL HB hw134_2), (hL HB hw134_3)⟩ (fun hHeld => ?_); refine with_tabW spec_IsThere.tab3 spec_IsThere.bits3 (fun HT_ HW_ => ?_)
    first | (generalize wn_.drew = w14 at HB HR133_1 hx129_0 hx129_1 hx129_2 hx129_3 hx130_0 hx130_1 hx130_2 hx130_3 hx132_0 hx132_1 hx132_2 hx132_3 hx133_0 hx133_1 hx134_0 hx134_1 hx134_2 hx134_3 hHeld ⊢) | (generalize w.drew = w14 at HB HR133_1 hx129_0 hx129_1 hx129_2 hx129_3 hx130_0 hx130_1 hx130_2 hx130_3 hx132_0 hx132_1 hx132_2 hx132_3 hx133_0 hx133_1 hx134_0 hx134_1 hx134_2 hx134_3 hHeld ⊢)
    refine pU 0 (some 13) (bm 35 1) HT_ rfl rfl ?_
    refine pU 1 (some 14) (bm 35 3) HT_ rfl rfl ?_
    refine pU 2 (some 15) (bm 35 7) HT_ rfl rfl ?_
    refine pU 3 (some 16) (bm 35 15) HT_ rfl rfl ?_
    refine tU 4 (some 17) (bm 35 31) HT_ HW_ rfl rfl hHeld ?_
    refine pU 5 (some 18) (bm 35 63) HT_ rfl rfl ?_
    refine pU 6 (some 19) (bm 35 127) HT_ rfl rfl ?_
    refine pU 7 (some 20) (bm 35 255) HT_ rfl rfl ?_
    refine pU 8 (some 21) (bm 35 511) HT_ rfl rfl ?_
    refine pU 9 (some 22) (bm 35 1023) HT_ rfl rfl ?_
    refine pU 10 (some 23) (bm 35 2047) HT_ rfl rfl ?_
    refine pU 12 (some 25) (bm 35 6143) HT_ rfl rfl ?_
    refine pU 13 (some 26) (bm 35 14335) HT_ rfl rfl ?_
    refine pU 14 (some 27) (bm 35 30719) HT_ rfl rfl ?_
    refine tU 11 (some 24) (bm 35 32767) HT_ HW_ rfl rfl hHeld ?_
    refine one_ (i := 15) (N := some 28) (bm 35 65535) rfl rfl (one_of HT_.out (by kernel_rfl)) (by decide) (fun K hK => ?_)
    refine goes_ Try.func49 (by kernel_rfl) rfl #[.int .i64 ((rd_T47 l0 a2).f2), .int .i64 0, .int .i64 (wrap64 ((l1.length : Int) - 1))] (by rfl) rfl rfl zG ?_
    with_reducible refine (spec_l1In.calls ((rd_T47 l0 a2).f2) 0 (wrap64 ((l1.length : Int) - 1)) true _ A10.out).mono ?_
    rintro e w' ⟨rfl, ⟨nd, rfl⟩⟩
    refine ⟨_, rfl, ?_⟩
    refine hK.out _ _ ⟨(hL HB hw129_0), (hL HB hw129_1), (hL HB hw129_2), (hL HB hw129_3), (hL HB hw130_0), (hL HB hw130_1), (hL HB hw130_2), (hL HB hw130_3), (hL HB hw132_0), (hL HB hw132_1), (hL HB hw132_2), (hL HB hw132_3), (hL HB hw133_0), (hL HB hw133_1), (hL HB hw134_0), (hL HB hw134_1), (hL HB hw134_2), (hL HB hw134_3)⟩ (fun hHeld => ?_)
    clear hK K
    refine norm_ (a' := ?_) ?_ ?_
    rotate_left
    ·show Act.put _ (some 28) _ = _
     simp only [Act.put, List.setIfInBounds_toArray, List.set_cons_zero, List.set_cons_succ, i64_w, i32_w]
     rfl
    refine pU 16 (some 29) (bm 35 131071) HT_ rfl rfl ?_
    refine pU 17 (some 30) (bm 35 262143) HT_ rfl rfl ?_
    refine pU 18 (some 31) (bm 35 524287) HT_ rfl rfl ?_
    refine pU 19 (some 32) (bm 35 1048575) HT_ rfl rfl ?_
    refine pU 20 (some 33) (bm 35 2097151) HT_ rfl rfl ?_
    refine pU 21 (some 34) (bm 35 4194303) HT_ rfl rfl ?_
    refine pU 26 (some 39) (bm 35 71303167) HT_ rfl rfl ?_
    refine pU 27 (some 40) (bm 35 205520895) HT_ rfl rfl ?_
    refine pU 28 (some 41) (bm 35 473956351) HT_ rfl rfl ?_
    refine pU 29 (some 42) (bm 35 1010827263) HT_ rfl rfl ?_
    refine tU 22 (some 35) (bm 35 1015021567) HT_ HW_ rfl rfl hHeld ?_
    refine pU 23 (some 36) (bm 35 1023410175) HT_ rfl rfl ?_
    refine pU 24 (some 37) (bm 35 1040187391) HT_ rfl rfl ?_
    refine tU 25 (some 38) (bm 35 1073741823) HT_ HW_ rfl rfl hHeld ?_
    refine tU 30 (some 43) (bm 35 2147483647) HT_ HW_ rfl rfl hHeld ?_
    refine pU 31 (some 44) (bm 35 4294967295) HT_ rfl rfl ?_
    refine pU 32 (some 45) (bm 35 8589934591) HT_ rfl rfl ?_
    refine pU 33 (some 46) (bm 35 17179869183) HT_ rfl rfl ?_
    refine pU 34 (some 6) (bm 35 34359738367) HT_ rfl rfl ?_
    refine done_ (done_of HT_.out (by kernel_rfl)) ?_
    try clear hHeld
    try go_wp2
    go_ret
    exact ⟨zE, zB HB⟩
   ·replace c11 := Bool.eq_false_iff.mpr c11
    subst c11
    have H1 : (some false) = some r := by rw [if_neg (show ¬ (false = true) by decide)] at H; exact H
    clear H
    have H := H1
    clear H1
    obtain rfl := Option.some.inj H
    go_enter Try.func43, Try.ntmps43
    try go_wp2_with (first | ((with_reducible refine gate_callee (f := 49) rfl ?_); refine goesL_ (some 11) rfl rfl Try.func49 (by kernel_rfl) rfl #[.int .i64 a2, .int .i64 0, .int .i64 (wrap64 ((l0.length : Int) - 1))] rfl zG ?_; (with_reducible refine (spec_l1In.calls a2 0 (wrap64 ((l0.length : Int) - 1)) true _ A4.out).mono ?_); rintro e w' ⟨rfl, ⟨nd, rfl⟩⟩; refine ⟨_, rfl, ?_⟩))
    try (obtain ⟨wn_, hwn_⟩ : ∃ x_ : World, x_ = w.drewN nd := ⟨_, rfl⟩; rw [← hwn_]; have hq_ := pw_below_drewN HB.out nd; rw [← hwn_] at hq_; replace HB := Aside0.mk hq_; clear hq_; clear hwn_)
    replace HB := Aside0.mk (below_drew1 HB.out)
    have p129 : 0 ≤ (a2 : Int) := zD
    have q129 : a2 < (l0.length : Int) := zD
    obtain ⟨ad129, e129, hx129_0, hx129_1, hx129_2, hx129_3⟩ := at_T47 HR0.out a2 p129 q129
    have hw129_3 := hx129_3
    have hw129_2 := hx129_2
    have hw129_1 := hx129_1
    have hw129_0 := hx129_0
    cases e129
    replace hx129_0 := hL HB hx129_0
    replace hx129_1 := hL HB hx129_1
    replace hx129_2 := hL HB hx129_2
    replace hx129_3 := hL HB hx129_3
    replace p129 := eq_true p129
    replace q129 := eq_true q129
    have p130 : 0 ≤ (a2 : Int) := zD
    have q130 : a2 < (l0.length : Int) := zD
    obtain ⟨ad130, e130, hx130_0, hx130_1, hx130_2, hx130_3⟩ := at_T47 HR0.out a2 p130 q130
    have hw130_3 := hx130_3
    have hw130_2 := hx130_2
    have hw130_1 := hx130_1
    have hw130_0 := hx130_0
    obtain rfl : ad129 = ad130 := (by injection e130)
    replace hx130_0 := hL HB hx130_0
    replace hx130_1 := hL HB hx130_1
    replace hx130_2 := hL HB hx130_2
    replace hx130_3 := hL HB hx130_3
    replace p130 := eq_true p130
    replace q130 := eq_true q130
    refine start_ (n := 35) (S := fun w' => w'.cell? (ad129.add ((a2).toNat * 4)) = some (.int .i64 ((rd_T47 l0 a2).f0)) ∧ w'.cell? ⟨(ad129.add ((a2).toNat * 4)).block, (ad129.add ((a2).toNat * 4)).off + 1, none⟩ = some (.int .i64 ((rd_T47 l0 a2).f1)) ∧ w'.cell? ⟨(ad129.add ((a2).toNat * 4)).block, (ad129.add ((a2).toNat * 4)).off + 2, none⟩ = some (.int .i64 ((rd_T47 l0 a2).f2)) ∧ w'.cell? ⟨(ad129.add ((a2).toNat * 4)).block, (ad129.add ((a2).toNat * 4)).off + 3, none⟩ = some (.int .i64 ((rd_T47 l0 a2).f3)) ∧ w'.cell? (ad129.add ((a2).toNat * 4)) = some (.int .i64 ((rd_T47 l0 a2).f0)) ∧ w'.cell? ⟨(ad129.add ((a2).toNat * 4)).block, (ad129.add ((a2).toNat * 4)).off + 1, none⟩ = some (.int .i64 ((rd_T47 l0 a2).f1)) ∧ w'.cell? ⟨(ad129.add ((a2).toNat * 4)).block, (ad129.add ((a2).toNat * 4)).off + 2, none⟩ = some (.int .i64 ((rd_T47 l0 a2).f2)) ∧ w'.cell? ⟨(ad129.add ((a2).toNat * 4)).block, (ad129.add ((a2).toNat * 4)).off + 3, none⟩ = some (.int .i64 ((rd_T47 l0 a2).f3))) (ds := []) (bm 35 0) (by kernel_rfl) rfl (bm0 _) ⟨(hL HB hw129_0), (hL HB hw129_1), (hL HB hw129_2), (hL HB hw129_3), (hL HB hw130_0), (hL HB hw130_1), (hL HB hw130_2), (hL HB hw130_3)⟩ (fun hHeld => ?_); refine with_tabW spec_IsThere.tab3 spec_IsThere.bits3 (fun HT_ HW_ => ?_)
    first | (generalize wn_.drew = w15 at HB hx129_0 hx129_1 hx129_2 hx129_3 hx130_0 hx130_1 hx130_2 hx130_3 hHeld ⊢) | (generalize w.drew = w15 at HB hx129_0 hx129_1 hx129_2 hx129_3 hx130_0 hx130_1 hx130_2 hx130_3 hHeld ⊢)
    refine pU 0 (some 13) (bm 35 1) HT_ rfl rfl ?_
    refine pU 1 (some 14) (bm 35 3) HT_ rfl rfl ?_
    refine pU 2 (some 15) (bm 35 7) HT_ rfl rfl ?_
    refine pU 3 (some 16) (bm 35 15) HT_ rfl rfl ?_
    refine tU 4 (some 17) (bm 35 31) HT_ HW_ rfl rfl hHeld ?_
    refine pU 5 (some 18) (bm 35 63) HT_ rfl rfl ?_
    refine pU 6 (some 19) (bm 35 127) HT_ rfl rfl ?_
    refine pU 7 (some 20) (bm 35 255) HT_ rfl rfl ?_
    refine pU 8 (some 21) (bm 35 511) HT_ rfl rfl ?_
    refine pU 9 (some 22) (bm 35 1023) HT_ rfl rfl ?_
    refine pU 10 (some 23) (bm 35 2047) HT_ rfl rfl ?_
    refine pU 12 (some 25) (bm 35 6143) HT_ rfl rfl ?_
    refine pU 13 (some 26) (bm 35 14335) HT_ rfl rfl ?_
    refine pU 14 (some 27) (bm 35 30719) HT_ rfl rfl ?_
    refine tU 11 (some 24) (bm 35 32767) HT_ HW_ rfl rfl hHeld ?_
    refine one_ (i := 15) (N := some 28) (bm 35 65535) rfl rfl (one_of HT_.out (by kernel_rfl)) (by decide) (fun K hK => ?_)
    refine goes_ Try.func49 (by kernel_rfl) rfl #[.int .i64 ((rd_T47 l0 a2).f2), .int .i64 0, .int .i64 (wrap64 ((l1.length : Int) - 1))] (by rfl) rfl rfl zG ?_
    with_reducible refine (spec_l1In.calls ((rd_T47 l0 a2).f2) 0 (wrap64 ((l1.length : Int) - 1)) false _ A10.out).mono ?_
    rintro e w' ⟨rfl, ⟨nd, rfl⟩⟩
    refine ⟨_, rfl, ?_⟩
    refine hK.out _ _ ⟨(hL HB hw129_0), (hL HB hw129_1), (hL HB hw129_2), (hL HB hw129_3), (hL HB hw130_0), (hL HB hw130_1), (hL HB hw130_2), (hL HB hw130_3)⟩ (fun hHeld => ?_)
    clear hK K
    refine norm_ (a' := ?_) ?_ ?_
    rotate_left
    ·show Act.put _ (some 28) _ = _
     simp only [Act.put, List.setIfInBounds_toArray, List.set_cons_zero, List.set_cons_succ, i64_w, i32_w]
     rfl
    refine pU 16 (some 29) (bm 35 131071) HT_ rfl rfl ?_
    refine pV 17 (some 30) (bm 35 262143) HT_ rfl rfl ?_
    refine pV 18 (some 31) (bm 35 524287) HT_ rfl rfl ?_
    refine pV 19 (some 32) (bm 35 1048575) HT_ rfl rfl ?_
    refine pV 20 (some 33) (bm 35 2097151) HT_ rfl rfl ?_
    refine pV 21 (some 34) (bm 35 4194303) HT_ rfl rfl ?_
    refine pV 22 (some 35) (bm 35 8388607) HT_ rfl rfl ?_
    refine pV 23 (some 36) (bm 35 16777215) HT_ rfl rfl ?_
    refine pV 24 (some 37) (bm 35 33554431) HT_ rfl rfl ?_
    refine pV 25 (some 38) (bm 35 67108863) HT_ rfl rfl ?_
    refine pV 26 (some 39) (bm 35 134217727) HT_ rfl rfl ?_
    refine pV 27 (some 40) (bm 35 268435455) HT_ rfl rfl ?_
    refine pV 28 (some 41) (bm 35 536870911) HT_ rfl rfl ?_
    refine pV 29 (some 42) (bm 35 1073741823) HT_ rfl rfl ?_
    refine pV 30 (some 43) (bm 35 2147483647) HT_ rfl rfl ?_
    refine pV 31 (some 44) (bm 35 4294967295) HT_ rfl rfl ?_
    refine pU 32 (some 45) (bm 35 8589934591) HT_ rfl rfl ?_
    refine pU 33 (some 46) (bm 35 17179869183) HT_ rfl rfl ?_
    refine pU 34 (some 6) (bm 35 34359738367) HT_ rfl rfl ?_
    refine done_ (done_of HT_.out (by kernel_rfl)) ?_
    try clear hHeld
    try go_wp2
    go_ret
    exact ⟨zE, zB HB⟩
 ·replace c5 := Bool.eq_false_iff.mpr c5
  subst c5
  have H1 : (some false) = some r := by rw [if_neg (show ¬ (false = true) by decide)] at H; exact H
  clear H
  have H := H1
  clear H1
  obtain rfl := Option.some.inj H
  go_enter Try.func43, Try.ntmps43
  go_wp2_with (first | ((with_reducible refine gate_callee (f := 49) rfl ?_); refine goesL_ (some 11) rfl rfl Try.func49 (by kernel_rfl) rfl #[.int .i64 a2, .int .i64 0, .int .i64 (wrap64 ((l0.length : Int) - 1))] rfl zG ?_; (with_reducible refine (spec_l1In.calls a2 0 (wrap64 ((l0.length : Int) - 1)) false _ A4.out).mono ?_); rintro e w' ⟨rfl, ⟨nd, rfl⟩⟩; refine ⟨_, rfl, ?_⟩))
  go_ret
  exact ⟨zE, zB HB⟩

/-! ### spec_Mod: function 60 -/
def spec_Mod.f (a0 : Int) (a1 : Int) : Option (Int) := (spec_l1In.f a1 1 1000000000000).bind fun t135 => (if t135 = true then (if a1 = 0 then (none) else (some (Int.tmod (wrap64 ((Int.tmod a0 a1) + a1)) a1))) else (some 0))
set_option maxHeartbeats 8000000 in
set_option maxRecDepth 100000 in
theorem spec_Mod.calls (a0 : Int) (a1 : Int) (r : Int) (w : World) (h : spec_Mod.f a0 a1 = some r) :
  Calls Try.prog 60 #[.int .i64 a0, .int .i64 a1] w fun e w' => e = .returned (.int .i64 r) ∧ Drawn0 w w' := by
 have H : ((spec_l1In.f a1 1 1000000000000).bind fun t135 => (if t135 = true then (if a1 = 0 then (none) else (some (Int.tmod (wrap64 ((Int.tmod a0 a1) + a1)) a1))) else (some 0))) = some r := h
 clear h
 obtain ⟨t135, A3, H⟩ := bindS H
 by_cases c4 : t135 = true
 ·subst c4
  have H1 : (if a1 = 0 then (none) else (some (Int.tmod (wrap64 ((Int.tmod a0 a1) + a1)) a1))) = some r := by rw [if_pos rfl] at H; exact H
  clear H
  have H := H1
  clear H1
  obtain ⟨c5, H⟩ := ifN H
  have c5b0 : (a1 == 0) = false := beq_eq_false_iff_ne.mpr c5
  have c5b1 : (a1 != 0) = true := bne_iff_ne.mpr c5
  obtain rfl := Option.some.inj H
  go_enter Try.func60, Try.ntmps60
  go_wp2_with (first | ((with_reducible refine gate_callee (f := 49) rfl ?_); refine goesL_ (some 6) rfl rfl Try.func49 (by kernel_rfl) rfl #[.int .i64 a1, .int .i64 1, .int .i64 1000000000000] rfl zG ?_; (with_reducible refine (spec_l1In.calls a1 1 1000000000000 true _ A3.out).mono ?_); rintro e w' ⟨rfl, ⟨nd, rfl⟩⟩; refine ⟨_, rfl, ?_⟩))
  go_ret
  exact ⟨by first | rfl | (simp; done) | (simp [*]; done), by repeat (first | exact Drawn0.refl _ | apply Drawn0.step)⟩
 ·replace c4 := Bool.eq_false_iff.mpr c4
  subst c4
  have H1 : (some 0) = some r := by rw [if_neg (show ¬ (false = true) by decide)] at H; exact H
  clear H
  have H := H1
  clear H1
  obtain rfl := Option.some.inj H
  go_enter Try.func60, Try.ntmps60
  go_wp2_with (first | ((with_reducible refine gate_callee (f := 49) rfl ?_); refine goesL_ (some 6) rfl rfl Try.func49 (by kernel_rfl) rfl #[.int .i64 a1, .int .i64 1, .int .i64 1000000000000] rfl zG ?_; (with_reducible refine (spec_l1In.calls a1 1 1000000000000 false _ A3.out).mono ?_); rintro e w' ⟨rfl, ⟨nd, rfl⟩⟩; refine ⟨_, rfl, ?_⟩))
  go_ret
  exact ⟨by first | rfl | (simp; done) | (simp [*]; done), by repeat (first | exact Drawn0.refl _ | apply Drawn0.step)⟩

/-! ### spec_Hash: function 61 -/
def spec_Hash.l0 : Nat → List Int → Int → Int → Option (Int)
 | 0, _, _, _ => none
 | k + 1, x0, x3, x4 => if x4 < (x0.length : Int) then (if 0 ≤ x4 then ((spec_Mod.f (rd x0 x4) 2147483647).bind fun t137 => (spec_Hash.l0 k x0 (Int.tmod (wrap64 ((wrap64 ((wrap64 (x3 * 1000003)) + t137)) + 13)) 2147483647) (wrap64 (x4 + 1)))) else (none)) else (some x3)
def spec_Hash.f (k : Nat) (l0 : List Int) : Option (Int) := spec_Hash.l0 k l0 11 0
theorem spec_Hash.mono_l : ∀ k, (∀ y0 y1 y2, LeO (spec_Hash.l0 k y0 y1 y2) (spec_Hash.l0 (k + 1) y0 y1 y2))
 | 0 => fun _ _ _ r h => by simp [spec_Hash.l0] at h
 | k + 1 => by
  have ih0 := spec_Hash.mono_l k
  ·intro y0 y1 y2
   unfold spec_Hash.l0
   repeat' first
   | (with_reducible exact ih0 _ _ _)
   | (with_reducible exact LeO.refl _)
   | (with_reducible exact LeO.none _)
   | (with_reducible refine LeO.ite ?_ ?_)
   | (with_reducible refine LeO.bind ?_ (fun _ => ?_))
   | exact ih0 _ _ _
   | exact LeO.none _
   | refine LeO.ite ?_ ?_
   | refine LeO.bind ?_ (fun _ => ?_)
theorem spec_Hash.mono : ∀ a0 k, LeO (spec_Hash.f k a0) (spec_Hash.f (k + 1) a0) := by
 intro a0 k
 have ih0 := spec_Hash.mono_l k
 unfold spec_Hash.f
 repeat' first
   | (with_reducible exact ih0 _ _ _)
   | (with_reducible exact LeO.refl _)
   | (with_reducible exact LeO.none _)
   | (with_reducible refine LeO.ite ?_ ?_)
   | (with_reducible refine LeO.bind ?_ (fun _ => ?_))
   | exact ih0 _ _ _
   | exact LeO.none _
   | refine LeO.ite ?_ ?_
   | refine LeO.bind ?_ (fun _ => ?_)
set_option maxHeartbeats 8000000 in
set_option maxRecDepth 100000 in
theorem spec_Hash.calls (k : Nat) (A0 : Option Addr) (c0 : Nat) (l0 : List Int) (r : Int) (w : World) (hr0 : Kd.C (Kd.int .i64) w A0 l0.length l0) (hc0 : l0.length ≤ c0) (h : spec_Hash.f k l0 = some r) :
  Calls Try.prog 61 #[.slice A0 l0.length c0] w fun e w' => e = .returned (.int .i64 r) ∧ Drawn0 w w' := by
 have HR0 := Aside0.mk hr0
 have HC0 := Aside0.mk hc0
 clear hr0 hc0
 have H : (spec_Hash.l0 k l0 11 0) = some r := h
 clear h
 have H' := Aside0.mk H
 clear H
 go_enter Try.func61, Try.ntmps61
 go_wp2
 go_loopg [3, 4] k (fun kq v3 v4 w' => ∃ (x3_1 : Int) (x4_1 : Int), v3 = .int .i64 x3_1 ∧ v4 = .int .i64 x4_1 ∧ Aside0 (spec_Hash.l0 kq l0 x3_1 x4_1 = some r) ∧ Aside0 (kq ≤ k) ∧ Drawn0 w w')
 case atStart => exact ⟨(11), (0), zF, zF, H', ⟨Nat.le_refl _⟩, by repeat (first | exact Drawn0.refl _ | apply Drawn0.step)⟩
 case round =>
  clear H'
  obtain ⟨x3_1, x4_1, rfl, rfl, HA, HK1, ⟨m1, rfl⟩⟩ := hrel
  cases gk with
  | zero => exact absurd HA.out (by simp [spec_Hash.l0])
  | succ k1 =>
   have H := HA.out
   clear HA
   simp only [spec_Hash.l0] at H
   by_cases c2 : x4_1 < (l0.length : Int)
   ·rw [if_pos c2] at H
    have c2b0 : decide (x4_1 < (l0.length : Int)) = true := decide_eq_true c2
    clear c2
    obtain ⟨c3, H⟩ := ifS H
    have c3b0 : decide (0 ≤ x4_1) = true := decide_eq_true c3
    clear c3
    obtain ⟨t137, A4, H⟩ := bindS H
    have H' := Aside0.mk H
    clear H
    have p136 : 0 ≤ (x4_1 : Int) := zD
    have q136 : x4_1 < (l0.length : Int) := zD
    obtain ⟨ad136, e136, hx136_0⟩ := Kd.at_int HR0.out x4_1 p136 q136
    cases e136
    replace p136 := eq_true p136
    replace q136 := eq_true q136
    go_wp2_with (first | ((with_reducible refine gate_callee (f := 60) rfl ?_); refine goesL_ (some 17) rfl rfl Try.func60 (by kernel_rfl) rfl #[.int .i64 (rd l0 x4_1), .int .i64 2147483647] rfl zG ?_; (with_reducible refine (spec_Mod.calls (rd l0 x4_1) 2147483647 t137 _ A4.out).mono ?_); rintro e w' ⟨rfl, ⟨nd, rfl⟩⟩; refine ⟨_, rfl, ?_⟩))
    go_roundg k1
    case measure => have := HK1.out; omega
    case rel => exact ⟨(Int.tmod (wrap64 ((wrap64 ((wrap64 (x3_1 * 1000003)) + t137)) + 13)) 2147483647), (wrap64 (x4_1 + 1)), zF, zF, H', ⟨by have := HK1.out; omega⟩, by repeat (first | exact Drawn0.refl _ | apply Drawn0.step)⟩
   ·rw [if_neg c2] at H
    have c2b0 : decide (x4_1 < (l0.length : Int)) = false := decide_eq_false c2
    clear c2
    obtain rfl := Option.some.inj H
    go_wp2
    go_ret
    exact ⟨by first | rfl | (simp; done) | (simp [*]; done), by repeat (first | exact Drawn0.refl _ | apply Drawn0.step)⟩

/-! ### spec_PickOf: function 46 -/
def spec_PickOf.f (k : Nat) (a0 : Int) (a1 : Int) (a2 : Int) : Option (Int) := if a2 < 1 then (some 0) else ((spec_Hash.f k (([a0, a1] : List Int))).bind fun t141 => ((spec_Mod.f t141 a2).bind fun t142 => (some t142)))
theorem spec_PickOf.mono : ∀ a0 a1 a2 k, LeO (spec_PickOf.f k a0 a1 a2) (spec_PickOf.f (k + 1) a0 a1 a2) := by
 intro a0 a1 a2 k
 unfold spec_PickOf.f
 repeat' first
   | (with_reducible exact spec_Hash.mono _ _)
   | (with_reducible exact LeO.refl _)
   | (with_reducible exact LeO.none _)
   | (with_reducible refine LeO.ite ?_ ?_)
   | (with_reducible refine LeO.bind ?_ (fun _ => ?_))
   | exact spec_Hash.mono _ _
   | exact LeO.none _
   | refine LeO.ite ?_ ?_
   | refine LeO.bind ?_ (fun _ => ?_)
set_option maxHeartbeats 8000000 in
set_option maxRecDepth 100000 in
theorem spec_PickOf.calls (k : Nat) (a0 : Int) (a1 : Int) (a2 : Int) (r : Int) (w : World) (h : spec_PickOf.f k a0 a1 a2 = some r) :
  Calls Try.prog 46 #[.int .i64 a0, .int .i64 a1, .int .i64 a2] w fun e w' => e = .returned (.int .i64 r) ∧ Below w.heap.size w w' := by
 have HB := Aside0.mk (Below.refl w.heap.size w)
 have H : (if a2 < 1 then (some 0) else ((spec_Hash.f k (([a0, a1] : List Int))).bind fun t141 => ((spec_Mod.f t141 a2).bind fun t142 => (some t142)))) = some r := h
 clear h
 by_cases c4 : a2 < 1
 ·rw [if_pos c4] at H
  have c4b0 : decide (a2 < 1) = true := decide_eq_true c4
  clear c4
  obtain rfl := Option.some.inj H
  go_enter Try.func46, Try.ntmps46
  go_wp2
  go_ret
  exact ⟨zE, zB HB⟩
 ·rw [if_neg c4] at H
  have c4b0 : decide (a2 < 1) = false := decide_eq_false c4
  clear c4
  obtain ⟨y138, hy138⟩ : ∃ y_ : List Int, y_ = (([a0, a1] : List Int)) := ⟨_, rfl⟩
  replace H : ((spec_Hash.f k y138).bind fun t141 => ((spec_Mod.f t141 a2).bind fun t142 => (some t142))) = some r := by first | (rw [hy138]; with_reducible exact H) | (have H2_ := (Option.bind_some _ _).symm.trans H; rw [hy138]; with_reducible exact H2_) | (have H2_ := (Option.bind_some _ _).symm.trans H; with_reducible exact H2_) | with_reducible exact H | (rw [hy138]; exact H) | exact H
  have Ny138 := Aside0.mk hy138
  clear hy138
  obtain ⟨t141, A5, H⟩ := bindS H
  obtain ⟨t142, A6, H⟩ := bindS H
  obtain rfl := Option.some.inj H
  go_enter Try.func46, Try.ntmps46
  go_wp2_with (first | ((with_reducible refine gate_dst (N := 11) rfl ?_); refine Kd.R_lit (Kd.int .i64) _ 3 ?hg (N := 11) ?hd (xs := ([a0, a1] : List Int)) (inner := [.int .i64 a0, .int .i64 a1]) (ok := fun _ => True) (okp := fun _ => True) ?hr ?hp (fun _ hk => hk) trivial (Below.refl _ _) (Nat.le_refl _) (by simp) ?_; (case hd => rfl); (case hg => rfl); (case hr => first | (go_simp; done) | (go_simp; rfl)); (case hp => exact (Reps.one (show Kd.M (Kd.int .i64) _ _ _ a0 [.int .i64 a0] from rfl) (Reps.one (show Kd.M (Kd.int .i64) _ _ _ a1 [.int .i64 a1] from rfl) (Reps.none _ _)))); intro v139 w7 ho8 hb hg_ hnew_; clear hg_ hnew_; (first | rw [← Ny138.out] at ho8 | (simp only [Int.reduceToNat] at ho8; rw [← Ny138.out] at ho8)); have HO140 := Aside0.mk (Kd.R_lower ho8 (below_size (zB HB))); replace HB := bS HB hb; clear hb ho8; obtain ⟨Ao9, co9, eo9⟩ := Kd.R_slice HO140.out; subst eo9) | ((with_reducible refine gate_callee (f := 61) rfl ?_); refine goesL_ (some 12) rfl rfl Try.func61 (by kernel_rfl) rfl #[.slice Ao9 y138.length co9] rfl zG ?_; (with_reducible refine (spec_Hash.calls k _ _ y138 t141 _ ?side1 ?side2 A5.out).mono ?_); (case side1 => repeat (first | exact (Kd.R_reads' HO140.out).2.2 | (with_reducible refine Kd.C_alloc ?_ _) | (with_reducible refine Kd.C_drewN ?_ _) | (with_reducible refine Kd.C_drew ?_))); (case side2 => exact (Kd.R_reads' HO140.out).2.1); rintro e w' ⟨rfl, ⟨nd, rfl⟩⟩; refine ⟨_, rfl, ?_⟩) | ((with_reducible refine gate_callee (f := 60) rfl ?_); refine goesL_ (some 14) rfl rfl Try.func60 (by kernel_rfl) rfl #[.int .i64 t141, .int .i64 a2] rfl zG ?_; (with_reducible refine (spec_Mod.calls t141 a2 t142 _ A6.out).mono ?_); rintro e w' ⟨rfl, ⟨nd, rfl⟩⟩; refine ⟨_, rfl, ?_⟩))
  go_ret
  exact ⟨zE, zB HB⟩

end Go.Proofs.Yticpmgofegaaeaa.PFnExactLostBy
