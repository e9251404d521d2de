-- WRITTEN by pp.py, this session's own wrapper around the print; not trusted: Lean checks it
import Derived.Test.YticpmgofegaaeaaPFnExactSkipsTailx0
import Derived.Test.YticpmgofegaaeaaPFnExactSkipsTailx1
namespace Go.Proofs.Yticpmgofegaaeaa.PFnExactSkipsTail
open Go.RowKit Go.Proofs.Yticpmgofegaaeaa.Hw Go.Proofs.YticpmgofegaaeaaW.PrintWords Go.Proofs.YticpmgofegaaeaaW.PrintLast Go.Proofs.YticpmgofegaaeaaW.PrintMore
attribute [local go_sem] max2_int min2_int max_two min_two max_three min_three max_four min_four   -- for this text's walks alone
set_option linter.unusedVariables false
set_option linter.unusedSimpArgs false
set_option linter.unusedSectionVars false

/-! ### spec_IsThere: function 43 -/
def spec_IsThere.f (l0 : List (S47)) (l1 : List (S58)) (a2 : Int) : Option (Bool) := (spec_l1In.f a2 0 (wrap64 ((l0.length : Int) - 1))).bind fun t111 => (if t111 = true then (if 0 ≤ a2 then (if a2 < (l0.length : Int) then (if ((rd_T47 l0 a2).f2) = (-1) then (some true) else ((spec_l1In.f ((rd_T47 l0 a2).f2) 0 (wrap64 ((l1.length : Int) - 1))).bind fun t114 => (if t114 = true then (if 0 ≤ ((rd_T47 l0 a2).f2) then (if ((rd_T47 l0 a2).f2) < (l1.length : Int) then (some (((rd_T58 l1 ((rd_T47 l0 a2).f2)).f0) == ((rd_T47 l0 a2).f3))) else (none)) else (none)) else (some false)))) else (none)) else (none)) else (some false))
def spec_IsThere.T3 : Bool × List (List Nat × List Nat) := (true, [([], []), ([], []), ([0, 1], [0, 1]), ([2], [2]), ([3], [3]), ([4], [4]), ([5], [5]), ([6], [6]), ([6], [6]), ([7, 8, 6], [6, 7, 8]), ([9, 6], [6, 9]), ([10, 6], [6, 10]), ([6], [6]), ([12, 6], [6, 12]), ([13, 6], [6, 13]), ([11, 14, 6, 6], [6, 11, 14]), ([15, 15, 6], [6, 15]), ([16], [16]), ([16], [16]), ([16], [16]), ([18, 19, 16], [16, 18, 19]), ([20, 16], [16, 20]), ([21, 16], [16, 21]), ([17, 22, 16], [16, 17, 22]), ([23, 16], [16, 23]), ([24, 16], [16, 24]), ([16], [16]), ([16], [16]), ([26, 27, 16], [16, 26, 27]), ([28, 16], [16, 28]), ([29, 16], [16, 29]), ([25, 30, 16], [16, 25, 30]), ([16, 31, 6], [6, 16, 31]), ([6, 32], [6, 32]), ([33, 16, 0, 1, 2, 3, 4, 5, 6, 7, 8, 9, 10, 11, 12, 13, 14, 15, 16, 17, 18, 19, 20, 21, 22, 23, 24, 25, 26, 27, 28, 29, 30, 31, 32, 33], [33])])
def spec_IsThere.B3 : List Nat := [0, 0, 3, 7, 15, 31, 63, 127, 127, 511, 1023, 2047, 127, 4223, 12415, 32767, 65535, 131071, 131071, 131071, 917503, 1966079, 4063231, 8388607, 16777215, 33554431, 131071, 131071, 201457663, 469893119, 1006764031, 2147483647, 4294967295, 8589934591, 17179869183]
theorem spec_IsThere.tab3 : rtab .any (opsOf Try.f43 3) = spec_IsThere.T3 := by kernel_rfl
theorem spec_IsThere.bits3 : waitsOk spec_IsThere.T3.2 spec_IsThere.B3 = true := by kernel_rfl
set_option maxHeartbeats 8000000 in
set_option maxRecDepth 100000 in
theorem spec_IsThere.calls (A0 : Option Addr) (c0 : Nat) (l0 : List (S47)) (A1 : Option Addr) (c1 : Nat) (l1 : List (S58)) (a2 : Int) (r : Bool) (w : World) (hr0 : Kd.C k47 w A0 l0.length l0) (hc0 : l0.length ≤ c0) (hr1 : Kd.C k58 w A1 l1.length l1) (hc1 : l1.length ≤ c1) (h : spec_IsThere.f l0 l1 a2 = some r) :
  Calls Try.prog 43 #[.slice A0 l0.length c0, .slice A1 l1.length c1, .int .i64 a2] w fun e w' => e = .returned (.bool r) ∧ Below w.heap.size w w' := by
 have HR0 := Aside0.mk hr0
 have HC0 := Aside0.mk hc0
 clear hr0 hc0
 have HR1 := Aside0.mk hr1
 have HC1 := Aside0.mk hc1
 clear hr1 hc1
 have HB := Aside0.mk (Below.refl w.heap.size w)
 have H : ((spec_l1In.f a2 0 (wrap64 ((l0.length : Int) - 1))).bind fun t111 => (if t111 = true then (if 0 ≤ a2 then (if a2 < (l0.length : Int) then (if ((rd_T47 l0 a2).f2) = (-1) then (some true) else ((spec_l1In.f ((rd_T47 l0 a2).f2) 0 (wrap64 ((l1.length : Int) - 1))).bind fun t114 => (if t114 = true then (if 0 ≤ ((rd_T47 l0 a2).f2) then (if ((rd_T47 l0 a2).f2) < (l1.length : Int) then (some (((rd_T58 l1 ((rd_T47 l0 a2).f2)).f0) == ((rd_T47 l0 a2).f3))) else (none)) else (none)) else (some false)))) else (none)) else (none)) else (some false))) = some r := h
 clear h
 obtain ⟨t111, A4, H⟩ := bindS H
 by_cases c5 : t111 = true
 ·subst c5
  have H1 : (if 0 ≤ a2 then (if a2 < (l0.length : Int) then (if ((rd_T47 l0 a2).f2) = (-1) then (some true) else ((spec_l1In.f ((rd_T47 l0 a2).f2) 0 (wrap64 ((l1.length : Int) - 1))).bind fun t114 => (if t114 = true then (if 0 ≤ ((rd_T47 l0 a2).f2) then (if ((rd_T47 l0 a2).f2) < (l1.length : Int) then (some (((rd_T58 l1 ((rd_T47 l0 a2).f2)).f0) == ((rd_T47 l0 a2).f3))) else (none)) else (none)) else (some false)))) else (none)) else (none)) = some r := by rw [if_pos rfl] at H; exact H
  clear H
  have H := H1
  clear H1
  obtain ⟨c6, H⟩ := ifS H
  have c6b0 : decide (0 ≤ a2) = true := decide_eq_true c6
  clear c6
  obtain ⟨c7, H⟩ := ifS H
  have c7b0 : decide (a2 < (l0.length : Int)) = true := decide_eq_true c7
  clear c7
  by_cases c8 : ((rd_T47 l0 a2).f2) = (-1)
  ·rw [if_pos c8] at H
   have c8b0 : (((rd_T47 l0 a2).f2) == (-1)) = true := beq_iff_eq.mpr c8
   have c8b1 : (((rd_T47 l0 a2).f2) != (-1)) = false := bne_eq_false_iff_eq.mpr c8
   clear c8
   obtain rfl := Option.some.inj H
   go_enter Try.func43, Try.ntmps43
   try go_wp2_with (first | ((with_reducible refine gate_callee (f := 49) rfl ?_); refine goesL_ (some 11) rfl rfl Try.func49 (by kernel_rfl) rfl #[.int .i64 a2, .int .i64 0, .int .i64 (wrap64 ((l0.length : Int) - 1))] rfl zG ?_; (with_reducible refine (spec_l1In.calls a2 0 (wrap64 ((l0.length : Int) - 1)) true _ A4.out).mono ?_); rintro e w' ⟨rfl, ⟨nd, rfl⟩⟩; refine ⟨_, rfl, ?_⟩))
   try (obtain ⟨wn_, hwn_⟩ : ∃ x_ : World, x_ = w.drewN nd := ⟨_, rfl⟩; rw [← hwn_]; have hq_ := pw_below_drewN HB.out nd; rw [← hwn_] at hq_; replace HB := Aside0.mk hq_; clear hq_; clear hwn_)
   replace HB := Aside0.mk (below_drew1 HB.out)
   have p112 : 0 ≤ (a2 : Int) := zD
   have q112 : a2 < (l0.length : Int) := zD
   obtain ⟨ad112, e112, hx112_0, hx112_1, hx112_2, hx112_3⟩ := at_T47 HR0.out a2 p112 q112
   have hw112_3 := hx112_3
   have hw112_2 := hx112_2
   have hw112_1 := hx112_1
   have hw112_0 := hx112_0
   cases e112
   replace hx112_0 := hL HB hx112_0
   replace hx112_1 := hL HB hx112_1
   replace hx112_2 := hL HB hx112_2
   replace hx112_3 := hL HB hx112_3
   replace p112 := eq_true p112
   replace q112 := eq_true q112
   refine start_ (n := 35) (S := fun w' => w'.cell? (ad112.add ((a2).toNat * 4)) = some (.int .i64 ((rd_T47 l0 a2).f0)) ∧ w'.cell? ⟨(ad112.add ((a2).toNat * 4)).block, (ad112.add ((a2).toNat * 4)).off + 1, none⟩ = some (.int .i64 ((rd_T47 l0 a2).f1)) ∧ w'.cell? ⟨(ad112.add ((a2).toNat * 4)).block, (ad112.add ((a2).toNat * 4)).off + 2, none⟩ = some (.int .i64 ((rd_T47 l0 a2).f2)) ∧ w'.cell? ⟨(ad112.add ((a2).toNat * 4)).block, (ad112.add ((a2).toNat * 4)).off + 3, none⟩ = some (.int .i64 ((rd_T47 l0 a2).f3))) (ds := []) (bm 35 0) (by kernel_rfl) rfl (bm0 _) ⟨(hL HB hw112_0), (hL HB hw112_1), (hL HB hw112_2), (hL HB hw112_3)⟩ (fun hHeld => ?_); refine with_tabW spec_IsThere.tab3 spec_IsThere.bits3 (fun HT_ HW_ => ?_)
   first | (generalize wn_.drew = w9 at HB hx112_0 hx112_1 hx112_2 hx112_3 hHeld ⊢) | (generalize w.drew = w9 at HB hx112_0 hx112_1 hx112_2 hx112_3 hHeld ⊢)
   refine pU 0 (some 13) (bm 35 1) HT_ rfl rfl ?_
   refine pU 1 (some 14) (bm 35 3) HT_ rfl rfl ?_
   refine pU 2 (some 15) (bm 35 7) HT_ rfl rfl ?_
   refine pU 3 (some 16) (bm 35 15) HT_ rfl rfl ?_
   refine tU 4 (some 17) (bm 35 31) HT_ HW_ rfl rfl hHeld ?_
   refine pU 5 (some 18) (bm 35 63) HT_ rfl rfl ?_
   refine pU 6 (some 19) (bm 35 127) HT_ rfl rfl ?_
   refine pV 7 (some 20) (bm 35 255) HT_ rfl rfl ?_
   refine pV 8 (some 21) (bm 35 511) HT_ rfl rfl ?_
   refine pV 9 (some 22) (bm 35 1023) HT_ rfl rfl ?_
   refine pV 10 (some 23) (bm 35 2047) HT_ rfl rfl ?_
   refine pV 11 (some 24) (bm 35 4095) HT_ rfl rfl ?_
   refine pV 12 (some 25) (bm 35 8191) HT_ rfl rfl ?_
   refine pV 13 (some 26) (bm 35 16383) HT_ rfl rfl ?_
   refine pV 14 (some 27) (bm 35 32767) HT_ rfl rfl ?_
   refine pV 15 (some 28) (bm 35 65535) HT_ rfl rfl ?_
   refine pV 16 (some 29) (bm 35 131071) HT_ rfl rfl ?_
   refine pV 17 (some 30) (bm 35 262143) HT_ rfl rfl ?_
   refine pV 18 (some 31) (bm 35 524287) HT_ rfl rfl ?_
   refine pV 19 (some 32) (bm 35 1048575) HT_ rfl rfl ?_
   refine pV 20 (some 33) (bm 35 2097151) HT_ rfl rfl ?_
   refine pV 21 (some 34) (bm 35 4194303) HT_ rfl rfl ?_
   refine pV 22 (some 35) (bm 35 8388607) HT_ rfl rfl ?_
   refine pV 23 (some 36) (bm 35 16777215) HT_ rfl rfl ?_
   refine pV 24 (some 37) (bm 35 33554431) HT_ rfl rfl ?_
   refine pV 25 (some 38) (bm 35 67108863) HT_ rfl rfl ?_
   refine pV 26 (some 39) (bm 35 134217727) HT_ rfl rfl ?_
   refine pV 27 (some 40) (bm 35 268435455) HT_ rfl rfl ?_
   refine pV 28 (some 41) (bm 35 536870911) HT_ rfl rfl ?_
   refine pV 29 (some 42) (bm 35 1073741823) HT_ rfl rfl ?_
   refine pV 30 (some 43) (bm 35 2147483647) HT_ rfl rfl ?_
   refine pV 31 (some 44) (bm 35 4294967295) HT_ rfl rfl ?_
   refine pV 32 (some 45) (bm 35 8589934591) HT_ rfl rfl ?_
   refine pU 33 (some 46) (bm 35 17179869183) HT_ rfl rfl ?_
   refine pU 34 (some 6) (bm 35 34359738367) HT_ rfl rfl ?_
   refine done_ (done_of HT_.out (by kernel_rfl)) ?_
   try clear hHeld
   try go_wp2
   go_ret
   exact ⟨zE, zB HB⟩
  ·rw [if_neg c8] at H
   have c8b0 : (((rd_T47 l0 a2).f2) == (-1)) = false := beq_eq_false_iff_ne.mpr c8
   have c8b1 : (((rd_T47 l0 a2).f2) != (-1)) = true := bne_iff_ne.mpr c8
   obtain ⟨t114, A10, H⟩ := bindS H
   by_cases c11 : t114 = true
   ·subst c11
    have H1 : (if 0 ≤ ((rd_T47 l0 a2).f2) then (if ((rd_T47 l0 a2).f2) < (l1.length : Int) then (some (((rd_T58 l1 ((rd_T47 l0 a2).f2)).f0) == ((rd_T47 l0 a2).f3))) else (none)) else (none)) = some r := by rw [if_pos rfl] at H; exact H
    clear H
    have H := H1
    clear H1
    obtain ⟨c12, H⟩ := ifS H
    have c12b0 : decide (0 ≤ ((rd_T47 l0 a2).f2)) = true := decide_eq_true c12
    clear c12
    obtain ⟨c13, H⟩ := ifS H
    have c13b0 : decide (((rd_T47 l0 a2).f2) < (l1.length : Int)) = true := decide_eq_true c13
    clear c13
    obtain rfl := Option.some.inj H
    go_enter Try.func43, Try.ntmps43
    try go_wp2_with (first | ((with_reducible refine gate_callee (f := 49) rfl ?_); refine goesL_ (some 11) rfl rfl Try.func49 (by kernel_rfl) rfl #[.int .i64 a2, .int .i64 0, .int .i64 (wrap64 ((l0.length : Int) - 1))] rfl zG ?_; (with_reducible refine (spec_l1In.calls a2 0 (wrap64 ((l0.length : Int) - 1)) true _ A4.out).mono ?_); rintro e w' ⟨rfl, ⟨nd, rfl⟩⟩; refine ⟨_, rfl, ?_⟩))
    try (obtain ⟨wn_, hwn_⟩ : ∃ x_ : World, x_ = w.drewN nd := ⟨_, rfl⟩; rw [← hwn_]; have hq_ := pw_below_drewN HB.out nd; rw [← hwn_] at hq_; replace HB := Aside0.mk hq_; clear hq_; clear hwn_)
    replace HB := Aside0.mk (below_drew1 HB.out)
    have p112 : 0 ≤ (a2 : Int) := zD
    have q112 : a2 < (l0.length : Int) := zD
    obtain ⟨ad112, e112, hx112_0, hx112_1, hx112_2, hx112_3⟩ := at_T47 HR0.out a2 p112 q112
    have hw112_3 := hx112_3
    have hw112_2 := hx112_2
    have hw112_1 := hx112_1
    have hw112_0 := hx112_0
    cases e112
    replace hx112_0 := hL HB hx112_0
    replace hx112_1 := hL HB hx112_1
    replace hx112_2 := hL HB hx112_2
    replace hx112_3 := hL HB hx112_3
    replace p112 := eq_true p112
    replace q112 := eq_true q112
    have p113 : 0 ≤ (a2 : Int) := zD
    have q113 : a2 < (l0.length : Int) := zD
    obtain ⟨ad113, e113, hx113_0, hx113_1, hx113_2, hx113_3⟩ := at_T47 HR0.out a2 p113 q113
    have hw113_3 := hx113_3
    have hw113_2 := hx113_2
    have hw113_1 := hx113_1
    have hw113_0 := hx113_0
    obtain rfl : ad112 = ad113 := (by injection e113)
    replace hx113_0 := hL HB hx113_0
    replace hx113_1 := hL HB hx113_1
    replace hx113_2 := hL HB hx113_2
    replace hx113_3 := hL HB hx113_3
    replace p113 := eq_true p113
    replace q113 := eq_true q113
    have p115 : 0 ≤ (a2 : Int) := zD
    have q115 : a2 < (l0.length : Int) := zD
    obtain ⟨ad115, e115, hx115_0, hx115_1, hx115_2, hx115_3⟩ := at_T47 HR0.out a2 p115 q115
    have hw115_3 := hx115_3
    have hw115_2 := hx115_2
    have hw115_1 := hx115_1
    have hw115_0 := hx115_0
    obtain rfl : ad112 = ad115 := (by injection e115)
    replace hx115_0 := hL HB hx115_0
    replace hx115_1 := hL HB hx115_1
    replace hx115_2 := hL HB hx115_2
    replace hx115_3 := hL HB hx115_3
    replace p115 := eq_true p115
    replace q115 := eq_true q115
    have p116 : 0 ≤ (((rd_T47 l0 a2).f2) : Int) := zD
    have q116 : ((rd_T47 l0 a2).f2) < (l1.length : Int) := zD
    obtain ⟨ad116, A116_1, c116_1, e116, hx116_0, hx116_1, hl116_1, hi116_1⟩ := at_T58 HR1.out ((rd_T47 l0 a2).f2) p116 q116
    have hw116_1 := hx116_1
    have hw116_0 := hx116_0
    cases e116
    replace hx116_0 := hL HB hx116_0
    replace hx116_1 := hL HB hx116_1
    have HR116_1 := Aside0.mk hi116_1
    have HC116_1 := Aside0.mk hl116_1
    clear hi116_1 hl116_1
    replace p116 := eq_true p116
    replace q116 := eq_true q116
    have p117 : 0 ≤ (a2 : Int) := zD
    have q117 : a2 < (l0.length : Int) := zD
    obtain ⟨ad117, e117, hx117_0, hx117_1, hx117_2, hx117_3⟩ := at_T47 HR0.out a2 p117 q117
    have hw117_3 := hx117_3
    have hw117_2 := hx117_2
    have hw117_1 := hx117_1
    have hw117_0 := hx117_0
    obtain rfl : ad112 = ad117 := (by injection e117)
    replace hx117_0 := hL HB hx117_0
    replace hx117_1 := hL HB hx117_1
    replace hx117_2 := hL HB hx117_2
    replace hx117_3 := hL HB hx117_3
    replace p117 := eq_true p117
    replace q117 := eq_true q117
    refine start_ (n := 35) (S := fun w' => w'.cell? (ad112.add ((a2).toNat * 4)) = some (.int .i64 ((rd_T47 l0 a2).f0)) ∧ w'.cell? ⟨(ad112.add ((a2).toNat * 4)).block, (ad112.add ((a2).toNat * 4)).off + 1, none⟩ = some (.int .i64 ((rd_T47 l0 a2).f1)) ∧ w'.cell? ⟨(ad112.add ((a2).toNat * 4)).block, (ad112.add ((a2).toNat * 4)).off + 2, none⟩ = some (.int .i64 ((rd_T47 l0 a2).f2)) ∧ w'.cell? ⟨(ad112.add ((a2).toNat * 4)).block, (ad112.add ((a2).toNat * 4)).off + 3, none⟩ = some (.int .i64 ((rd_T47 l0 a2).f3)) ∧ w'.cell? (ad112.add ((a2).toNat * 4)) = some (.int .i64 ((rd_T47 l0 a2).f0)) ∧ w'.cell? ⟨(ad112.add ((a2).toNat * 4)).block, (ad112.add ((a2).toNat * 4)).off + 1, none⟩ = some (.int .i64 ((rd_T47 l0 a2).f1)) ∧ w'.cell? ⟨(ad112.add ((a2).toNat * 4)).block, (ad112.add ((a2).toNat * 4)).off + 2, none⟩ = some (.int .i64 ((rd_T47 l0 a2).f2)) ∧ w'.cell? ⟨(ad112.add ((a2).toNat * 4)).block, (ad112.add ((a2).toNat * 4)).off + 3, none⟩ = some (.int .i64 ((rd_T47 l0 a2).f3)) ∧ w'.cell? (ad112.add ((a2).toNat * 4)) = some (.int .i64 ((rd_T47 l0 a2).f0)) ∧ w'.cell? ⟨(ad112.add ((a2).toNat * 4)).block, (ad112.add ((a2).toNat * 4)).off + 1, none⟩ = some (.int .i64 ((rd_T47 l0 a2).f1)) ∧ w'.cell? ⟨(ad112.add ((a2).toNat * 4)).block, (ad112.add ((a2).toNat * 4)).off + 2, none⟩ = some (.int .i64 ((rd_T47 l0 a2).f2)) ∧ w'.cell? ⟨(ad112.add ((a2).toNat * 4)).block, (ad112.add ((a2).toNat * 4)).off + 3, none⟩ = some (.int .i64 ((rd_T47 l0 a2).f3)) ∧ w'.cell? (ad116.add ((((rd_T47 l0 a2).f2)).toNat * 2)) = some (.int .i64 ((rd_T58 l1 ((rd_T47 l0 a2).f2)).f0)) ∧ w'.cell? ⟨(ad116.add ((((rd_T47 l0 a2).f2)).toNat * 2)).block, (ad116.add ((((rd_T47 l0 a2).f2)).toNat * 2)).off + 1, none⟩ = some (.slice A116_1 ((rd_T58 l1 ((rd_T47 l0 a2).f2)).f1).length c116_1) ∧ w'.cell? (ad112.add ((a2).toNat * 4)) = some (.int .i64 ((rd_T47 l0 a2).f0)) ∧ w'.cell? ⟨(ad112.add ((a2).toNat * 4)).block, (ad112.add ((a2).toNat * 4)).off + 1, none⟩ = some (.int .i64 ((rd_T47 l0 a2).f1)) ∧ w'.cell? ⟨(ad112.add ((a2).toNat * 4)).block, (ad112.add ((a2).toNat * 4)).off + 2, none⟩ = some (.int .i64 ((rd_T47 l0 a2).f2)) ∧ w'.cell? ⟨(ad112.add ((a2).toNat * 4)).block, (ad112.add ((a2).toNat * 4)).off + 3, none⟩ = some (.int .i64 ((rd_T47 l0 a2).f3))) (ds := []) (bm 35 0) (by kernel_rfl) rfl (bm0 _) ⟨(hL HB hw112_0), (hL HB hw112_1), (hL HB hw112_2), (hL HB hw112_3), (hL HB hw113_0), (hL HB hw113_1), (hL HB hw113_2), (hL HB hw113_3), (hL HB hw115_0), (hL HB hw115_1), (hL HB hw115_2), (hL HB hw115_3), (hL HB hw116_0), (hL HB hw116_1), (hL HB hw117_0), (hL HB hw117_1), (hL HB hw117_2), (hL HB hw117_3)⟩ (fun hHeld => ?_); refine with_tabW spec_IsThere.tab3 spec_IsThere.bits3 (fun HT_ HW_ => ?_)
    first | (generalize wn_.drew = w14 at HB HR116_1 hx112_0 hx112_1 hx112_2 hx112_3 hx113_0 hx113_1 hx113_2 hx113_3 hx115_0 hx115_1 hx115_2 hx115_3 hx116_0 hx116_1 hx117_0 hx117_1 hx117_2 hx117_3 hHeld ⊢) | (generalize w.drew = w14 at HB HR116_1 hx112_0 hx112_1 hx112_2 hx112_3 hx113_0 hx113_1 hx113_2 hx113_3 hx115_0 hx115_1 hx115_2 hx115_3 hx116_0 hx116_1 hx117_0 hx117_1 hx117_2 hx117_3 hHeld ⊢)
    refine pU 0 (some 13) (bm 35 1) HT_ rfl rfl ?_
    refine pU 1 (some 14) (bm 35 3) HT_ rfl rfl ?_
    refine pU 2 (some 15) (bm 35 7) HT_ rfl rfl ?_
    refine pU 3 (some 16) (bm 35 15) HT_ rfl rfl ?_
    refine tU 4 (some 17) (bm 35 31) HT_ HW_ rfl rfl hHeld ?_
    refine pU 5 (some 18) (bm 35 63) HT_ rfl rfl ?_
    refine pU 6 (some 19) (bm 35 127) HT_ rfl rfl ?_
    refine pU 7 (some 20) (bm 35 255) HT_ rfl rfl ?_
    refine pU 8 (some 21) (bm 35 511) HT_ rfl rfl ?_
    refine pU 9 (some 22) (bm 35 1023) HT_ rfl rfl ?_
    refine pU 10 (some 23) (bm 35 2047) HT_ rfl rfl ?_
    refine pU 12 (some 25) (bm 35 6143) HT_ rfl rfl ?_
    refine pU 13 (some 26) (bm 35 14335) HT_ rfl rfl ?_
    refine pU 14 (some 27) (bm 35 30719) HT_ rfl rfl ?_
    refine tU 11 (some 24) (bm 35 32767) HT_ HW_ rfl rfl hHeld ?_
    refine one_ (i := 15) (N := some 28) (bm 35 65535) rfl rfl (one_of HT_.out (by kernel_rfl)) (by decide) (fun K hK => ?_)
    refine goes_ Try.func49 (by kernel_rfl) rfl #[.int .i64 ((rd_T47 l0 a2).f2), .int .i64 0, .int .i64 (wrap64 ((l1.length : Int) - 1))] (by rfl) rfl rfl zG ?_
    with_reducible refine (spec_l1In.calls ((rd_T47 l0 a2).f2) 0 (wrap64 ((l1.length : Int) - 1)) true _ A10.out).mono ?_
    rintro e w' ⟨rfl, ⟨nd, rfl⟩⟩
    refine ⟨_, rfl, ?_⟩
    refine hK.out _ _ ⟨(hL HB hw112_0), (hL HB hw112_1), (hL HB hw112_2), (hL HB hw112_3), (hL HB hw113_0), (hL HB hw113_1), (hL HB hw113_2), (hL HB hw113_3), (hL HB hw115_0), (hL HB hw115_1), (hL HB hw115_2), (hL HB hw115_3), (hL HB hw116_0), (hL HB hw116_1), (hL HB hw117_0), (hL HB hw117_1), (hL HB hw117_2), (hL HB hw117_3)⟩ (fun hHeld => ?_)
    clear hK K
    refine norm_ (a' := ?_) ?_ ?_
    rotate_left
    ·show Act.put _ (some 28) _ = _
     simp only [Act.put, List.setIfInBounds_toArray, List.set_cons_zero, List.set_cons_succ, i64_w, i32_w]
     rfl
    refine pU 16 (some 29) (bm 35 131071) HT_ rfl rfl ?_
    refine pU 17 (some 30) (bm 35 262143) HT_ rfl rfl ?_
    refine pU 18 (some 31) (bm 35 524287) HT_ rfl rfl ?_
    refine pU 19 (some 32) (bm 35 1048575) HT_ rfl rfl ?_
    refine pU 20 (some 33) (bm 35 2097151) HT_ rfl rfl ?_
    refine pU 21 (some 34) (bm 35 4194303) HT_ rfl rfl ?_
    refine pU 26 (some 39) (bm 35 71303167) HT_ rfl rfl ?_
    refine pU 27 (some 40) (bm 35 205520895) HT_ rfl rfl ?_
    refine pU 28 (some 41) (bm 35 473956351) HT_ rfl rfl ?_
    refine pU 29 (some 42) (bm 35 1010827263) HT_ rfl rfl ?_
    refine tU 22 (some 35) (bm 35 1015021567) HT_ HW_ rfl rfl hHeld ?_
    refine pU 23 (some 36) (bm 35 1023410175) HT_ rfl rfl ?_
    refine pU 24 (some 37) (bm 35 1040187391) HT_ rfl rfl ?_
    refine tU 25 (some 38) (bm 35 1073741823) HT_ HW_ rfl rfl hHeld ?_
    refine tU 30 (some 43) (bm 35 2147483647) HT_ HW_ rfl rfl hHeld ?_
    refine pU 31 (some 44) (bm 35 4294967295) HT_ rfl rfl ?_
    refine pU 32 (some 45) (bm 35 8589934591) HT_ rfl rfl ?_
    refine pU 33 (some 46) (bm 35 17179869183) HT_ rfl rfl ?_
    refine pU 34 (some 6) (bm 35 34359738367) HT_ rfl rfl ?_
    refine done_ (done_of HT_.out (by kernel_rfl)) ?_
    try clear hHeld
    try go_wp2
    go_ret
    exact ⟨zE, zB HB⟩
   ·replace c11 := Bool.eq_false_iff.mpr c11
    subst c11
    have H1 : (some false) = some r := by rw [if_neg (show ¬ (false = true) by decide)] at H; exact H
    clear H
    have H := H1
    clear H1
    obtain rfl := Option.some.inj H
    go_enter Try.func43, Try.ntmps43
    try go_wp2_with (first | ((with_reducible refine gate_callee (f := 49) rfl ?_); refine goesL_ (some 11) rfl rfl Try.func49 (by kernel_rfl) rfl #[.int .i64 a2, .int .i64 0, .int .i64 (wrap64 ((l0.length : Int) - 1))] rfl zG ?_; (with_reducible refine (spec_l1In.calls a2 0 (wrap64 ((l0.length : Int) - 1)) true _ A4.out).mono ?_); rintro e w' ⟨rfl, ⟨nd, rfl⟩⟩; refine ⟨_, rfl, ?_⟩))
    try (obtain ⟨wn_, hwn_⟩ : ∃ x_ : World, x_ = w.drewN nd := ⟨_, rfl⟩; rw [← hwn_]; have hq_ := pw_below_drewN HB.out nd; rw [← hwn_] at hq_; replace HB := Aside0.mk hq_; clear hq_; clear hwn_)
    replace HB := Aside0.mk (below_drew1 HB.out)
    have p112 : 0 ≤ (a2 : Int) := zD
    have q112 : a2 < (l0.length : Int) := zD
    obtain ⟨ad112, e112, hx112_0, hx112_1, hx112_2, hx112_3⟩ := at_T47 HR0.out a2 p112 q112
    have hw112_3 := hx112_3
    have hw112_2 := hx112_2
    have hw112_1 := hx112_1
    have hw112_0 := hx112_0
    cases e112
    replace hx112_0 := hL HB hx112_0
    replace hx112_1 := hL HB hx112_1
    replace hx112_2 := hL HB hx112_2
    replace hx112_3 := hL HB hx112_3
    replace p112 := eq_true p112
    replace q112 := eq_true q112
    have p113 : 0 ≤ (a2 : Int) := zD
    have q113 : a2 < (l0.length : Int) := zD
    obtain ⟨ad113, e113, hx113_0, hx113_1, hx113_2, hx113_3⟩ := at_T47 HR0.out a2 p113 q113
    have hw113_3 := hx113_3
    have hw113_2 := hx113_2
    have hw113_1 := hx113_1
    have hw113_0 := hx113_0
    obtain rfl : ad112 = ad113 := (by injection e113)
    replace hx113_0 := hL HB hx113_0
    replace hx113_1 := hL HB hx113_1
    replace hx113_2 := hL HB hx113_2
    replace hx113_3 := hL HB hx113_3
    replace p113 := eq_true p113
    replace q113 := eq_true q113
    refine start_ (n := 35) (S := fun w' => w'.cell? (ad112.add ((a2).toNat * 4)) = some (.int .i64 ((rd_T47 l0 a2).f0)) ∧ w'.cell? ⟨(ad112.add ((a2).toNat * 4)).block, (ad112.add ((a2).toNat * 4)).off + 1, none⟩ = some (.int .i64 ((rd_T47 l0 a2).f1)) ∧ w'.cell? ⟨(ad112.add ((a2).toNat * 4)).block, (ad112.add ((a2).toNat * 4)).off + 2, none⟩ = some (.int .i64 ((rd_T47 l0 a2).f2)) ∧ w'.cell? ⟨(ad112.add ((a2).toNat * 4)).block, (ad112.add ((a2).toNat * 4)).off + 3, none⟩ = some (.int .i64 ((rd_T47 l0 a2).f3)) ∧ w'.cell? (ad112.add ((a2).toNat * 4)) = some (.int .i64 ((rd_T47 l0 a2).f0)) ∧ w'.cell? ⟨(ad112.add ((a2).toNat * 4)).block, (ad112.add ((a2).toNat * 4)).off + 1, none⟩ = some (.int .i64 ((rd_T47 l0 a2).f1)) ∧ w'.cell? ⟨(ad112.add ((a2).toNat * 4)).block, (ad112.add ((a2).toNat * 4)).off + 2, none⟩ = some (.int .i64 ((rd_T47 l0 a2).f2)) ∧ w'.cell? ⟨(ad112.add ((a2).toNat * 4)).block, (ad112.add ((a2).toNat * 4)).off + 3, none⟩ = some (.int .i64 ((rd_T47 l0 a2).f3))) (ds := []) (bm 35 0) (by kernel_rfl) rfl (bm0 _) ⟨(hL HB hw112_0), (hL HB hw112_1), (hL HB hw112_2), (hL HB hw112_3), (hL HB hw113_0), (hL HB hw113_1), (hL HB hw113_2), (hL HB hw113_3)⟩ (fun hHeld => ?_); refine with_tabW spec_IsThere.tab3 spec_IsThere.bits3 (fun HT_ HW_ => ?_)
    first | (generalize wn_.drew = w15 at HB hx112_0 hx112_1 hx112_2 hx112_3 hx113_0 hx113_1 hx113_2 hx113_3 hHeld ⊢) | (generalize w.drew = w15 at HB hx112_0 hx112_1 hx112_2 hx112_3 hx113_0 hx113_1 hx113_2 hx113_3 hHeld ⊢)
    refine pU 0 (some 13) (bm 35 1) HT_ rfl rfl ?_
    refine pU 1 (some 14) (bm 35 3) HT_ rfl rfl ?_
    refine pU 2 (some 15) (bm 35 7) HT_ rfl rfl ?_
    refine pU 3 (some 16) (bm 35 15) HT_ rfl rfl ?_
    refine tU 4 (some 17) (bm 35 31) HT_ HW_ rfl rfl hHeld ?_
    refine pU 5 (some 18) (bm 35 63) HT_ rfl rfl ?_
    refine pU 6 (some 19) (bm 35 127) HT_ rfl rfl ?_
    refine pU 7 (some 20) (bm 35 255) HT_ rfl rfl ?_
    refine pU 8 (some 21) (bm 35 511) HT_ rfl rfl ?_
    refine pU 9 (some 22) (bm 35 1023) HT_ rfl rfl ?_
    refine pU 10 (some 23) (bm 35 2047) HT_ rfl rfl ?_
    refine pU 12 (some 25) (bm 35 6143) HT_ rfl rfl ?_
    refine pU 13 (some 26) (bm 35 14335) HT_ rfl rfl ?_
    refine pU 14 (some 27) (bm 35 30719) HT_ rfl rfl ?_
    refine tU 11 (some 24) (bm 35 32767) HT_ HW_ rfl rfl hHeld ?_
    refine one_ (i := 15) (N := some 28) (bm 35 65535) rfl rfl (one_of HT_.out (by kernel_rfl)) (by decide) (fun K hK => ?_)
    refine goes_ Try.func49 (by kernel_rfl) rfl #[.int .i64 ((rd_T47 l0 a2).f2), .int .i64 0, .int .i64 (wrap64 ((l1.length : Int) - 1))] (by rfl) rfl rfl zG ?_
    with_reducible refine (spec_l1In.calls ((rd_T47 l0 a2).f2) 0 (wrap64 ((l1.length : Int) - 1)) false _ A10.out).mono ?_
    rintro e w' ⟨rfl, ⟨nd, rfl⟩⟩
    refine ⟨_, rfl, ?_⟩
    refine hK.out _ _ ⟨(hL HB hw112_0), (hL HB hw112_1), (hL HB hw112_2), (hL HB hw112_3), (hL HB hw113_0), (hL HB hw113_1), (hL HB hw113_2), (hL HB hw113_3)⟩ (fun hHeld => ?_)
    clear hK K
    refine norm_ (a' := ?_) ?_ ?_
    rotate_left
    ·show Act.put _ (some 28) _ = _
     simp only [Act.put, List.setIfInBounds_toArray, List.set_cons_zero, List.set_cons_succ, i64_w, i32_w]
     rfl
    refine pU 16 (some 29) (bm 35 131071) HT_ rfl rfl ?_
    refine pV 17 (some 30) (bm 35 262143) HT_ rfl rfl ?_
    refine pV 18 (some 31) (bm 35 524287) HT_ rfl rfl ?_
    refine pV 19 (some 32) (bm 35 1048575) HT_ rfl rfl ?_
    refine pV 20 (some 33) (bm 35 2097151) HT_ rfl rfl ?_
    refine pV 21 (some 34) (bm 35 4194303) HT_ rfl rfl ?_
    refine pV 22 (some 35) (bm 35 8388607) HT_ rfl rfl ?_
    refine pV 23 (some 36) (bm 35 16777215) HT_ rfl rfl ?_
    refine pV 24 (some 37) (bm 35 33554431) HT_ rfl rfl ?_
    refine pV 25 (some 38) (bm 35 67108863) HT_ rfl rfl ?_
    refine pV 26 (some 39) (bm 35 134217727) HT_ rfl rfl ?_
    refine pV 27 (some 40) (bm 35 268435455) HT_ rfl rfl ?_
    refine pV 28 (some 41) (bm 35 536870911) HT_ rfl rfl ?_
    refine pV 29 (some 42) (bm 35 1073741823) HT_ rfl rfl ?_
    refine pV 30 (some 43) (bm 35 2147483647) HT_ rfl rfl ?_
    refine pV 31 (some 44) (bm 35 4294967295) HT_ rfl rfl ?_
    refine pU 32 (some 45) (bm 35 8589934591) HT_ rfl rfl ?_
    refine pU 33 (some 46) (bm 35 17179869183) HT_ rfl rfl ?_
    refine pU 34 (some 6) (bm 35 34359738367) HT_ rfl rfl ?_
    refine done_ (done_of HT_.out (by kernel_rfl)) ?_
    try clear hHeld
    try go_wp2
    go_ret
    exact ⟨zE, zB HB⟩
 ·replace c5 := Bool.eq_false_iff.mpr c5
  subst c5
  have H1 : (some false) = some r := by rw [if_neg (show ¬ (false = true) by decide)] at H; exact H
  clear H
  have H := H1
  clear H1
  obtain rfl := Option.some.inj H
  go_enter Try.func43, Try.ntmps43
  go_wp2_with (first | ((with_reducible refine gate_callee (f := 49) rfl ?_); refine goesL_ (some 11) rfl rfl Try.func49 (by kernel_rfl) rfl #[.int .i64 a2, .int .i64 0, .int .i64 (wrap64 ((l0.length : Int) - 1))] rfl zG ?_; (with_reducible refine (spec_l1In.calls a2 0 (wrap64 ((l0.length : Int) - 1)) false _ A4.out).mono ?_); rintro e w' ⟨rfl, ⟨nd, rfl⟩⟩; refine ⟨_, rfl, ?_⟩))
  go_ret
  exact ⟨zE, zB HB⟩

/-! ### spec_FitsField: function 58 -/
mutual
def spec_FitsField.j0 : Nat → Int → Int → Int → Int → Int → Int → List Int → Option (Bool)
 | 0, _, _, _, _, _, _, _ => none
 | k + 1, x5, x119000, x119001, x119002, x119003, x120000, x120001 => spec_FitsField.l0 k x5 0 x119000 x119001 x119002 x119003 x120000 x120001
def spec_FitsField.l0 : Nat → Int → Int → Int → Int → Int → Int → Int → List Int → Option (Bool)
 | 0, _, _, _, _, _, _, _, _ => none
 | k + 1, x5, x6, x119000, x119001, x119002, x119003, x120000, x120001 => if x6 < (x120001.length : Int) then (if 0 ≤ x6 then ((spec_l1In.f (rd x120001 x6) 0 x5).bind fun t122 => (if t122 = true then (spec_FitsField.l0 k x5 (wrap64 (x6 + 1)) x119000 x119001 x119002 x119003 x120000 x120001) else (some false))) else (none)) else (if x120000 = 0 then (some (decide ((x120001.length : Int) ≤ x119001))) else (some false))
end
def spec_FitsField.f (k : Nat) (a0_0 : Int) (a0_1 : Int) (a0_2 : Int) (a0_3 : Int) (a1_0 : Int) (l1_1 : List Int) : Option (Bool) := if a0_0 = 1 then ((spec_l1In.f a1_0 0 a0_1).bind fun t120 => (if t120 = true then (some ((l1_1.length : Int) == 0)) else (some false))) else (if a0_0 = 3 then (spec_FitsField.j0 k 99 a0_0 a0_1 a0_2 a0_3 a1_0 l1_1) else (if a0_0 = 2 then (spec_FitsField.j0 k 255 a0_0 a0_1 a0_2 a0_3 a1_0 l1_1) else (some false)))
theorem spec_FitsField.mono_l : ∀ k, (∀ y0 y1 y2 y3 y4 y5 y6, LeO (spec_FitsField.j0 k y0 y1 y2 y3 y4 y5 y6) (spec_FitsField.j0 (k + 1) y0 y1 y2 y3 y4 y5 y6)) ∧ (∀ y0 y1 y2 y3 y4 y5 y6 y7, LeO (spec_FitsField.l0 k y0 y1 y2 y3 y4 y5 y6 y7) (spec_FitsField.l0 (k + 1) y0 y1 y2 y3 y4 y5 y6 y7))
 | 0 => ⟨fun _ _ _ _ _ _ _ r h => by simp [spec_FitsField.j0] at h, fun _ _ _ _ _ _ _ _ r h => by simp [spec_FitsField.l0] at h⟩
 | k + 1 => by
  obtain ⟨ih0, ih1⟩ := spec_FitsField.mono_l k
  refine ⟨?_, ?_⟩
  ·intro y0 y1 y2 y3 y4 y5 y6
   unfold spec_FitsField.j0
   repeat' first
   | (with_reducible exact ih0 _ _ _ _ _ _ _)
   | (with_reducible exact ih1 _ _ _ _ _ _ _ _)
   | (with_reducible exact LeO.refl _)
   | (with_reducible exact LeO.none _)
   | (with_reducible refine LeO.ite ?_ ?_)
   | (with_reducible refine LeO.bind ?_ (fun _ => ?_))
   | exact ih0 _ _ _ _ _ _ _
   | exact ih1 _ _ _ _ _ _ _ _
   | exact LeO.none _
   | refine LeO.ite ?_ ?_
   | refine LeO.bind ?_ (fun _ => ?_)
  ·intro y0 y1 y2 y3 y4 y5 y6 y7
   unfold spec_FitsField.l0
   repeat' first
   | (with_reducible exact ih0 _ _ _ _ _ _ _)
   | (with_reducible exact ih1 _ _ _ _ _ _ _ _)
   | (with_reducible exact LeO.refl _)
   | (with_reducible exact LeO.none _)
   | (with_reducible refine LeO.ite ?_ ?_)
   | (with_reducible refine LeO.bind ?_ (fun _ => ?_))
   | exact ih0 _ _ _ _ _ _ _
   | exact ih1 _ _ _ _ _ _ _ _
   | exact LeO.none _
   | refine LeO.ite ?_ ?_
   | refine LeO.bind ?_ (fun _ => ?_)
theorem spec_FitsField.mono : ∀ a0 a1 a2 a3 a4 a5 k, LeO (spec_FitsField.f k a0 a1 a2 a3 a4 a5) (spec_FitsField.f (k + 1) a0 a1 a2 a3 a4 a5) := by
 intro a0 a1 a2 a3 a4 a5 k
 obtain ⟨ih0, ih1⟩ := spec_FitsField.mono_l k
 unfold spec_FitsField.f
 repeat' first
   | (with_reducible exact ih0 _ _ _ _ _ _ _)
   | (with_reducible exact ih1 _ _ _ _ _ _ _ _)
   | (with_reducible exact LeO.refl _)
   | (with_reducible exact LeO.none _)
   | (with_reducible refine LeO.ite ?_ ?_)
   | (with_reducible refine LeO.bind ?_ (fun _ => ?_))
   | exact ih0 _ _ _ _ _ _ _
   | exact ih1 _ _ _ _ _ _ _ _
   | exact LeO.none _
   | refine LeO.ite ?_ ?_
   | refine LeO.bind ?_ (fun _ => ?_)
set_option maxHeartbeats 8000000 in
set_option maxRecDepth 100000 in
theorem spec_FitsField.calls (k : Nat) (a0_0 : Int) (a0_1 : Int) (a0_2 : Int) (a0_3 : Int) (a1_0 : Int) (A1_1 : Option Addr) (c1_1 : Nat) (l1_1 : List Int) (r : Bool) (w : World) (hr1_1 : Kd.C (Kd.int .i64) w A1_1 l1_1.length l1_1) (hc1_1 : l1_1.length ≤ c1_1) (h : spec_FitsField.f k a0_0 a0_1 a0_2 a0_3 a1_0 l1_1 = some r) :
  Calls Try.prog 58 #[.agg #[.int .i64 a0_0, .int .i64 a0_1, .int .i64 a0_2, .int .i64 a0_3], .agg #[.int .i64 a1_0, .slice A1_1 l1_1.length c1_1]] w fun e w' => e = .returned (.bool r) ∧ Below w.heap.size w w' := by
 have hu47 := Try.underlying47
 have hu58 := Try.underlying58
 have HR1_1 := Aside0.mk hr1_1
 have HC1_1 := Aside0.mk hc1_1
 clear hr1_1 hc1_1
 have HB := Aside0.mk (Below.refl w.heap.size w)
 have H : (if a0_0 = 1 then ((spec_l1In.f a1_0 0 a0_1).bind fun t120 => (if t120 = true then (some ((l1_1.length : Int) == 0)) else (some false))) else (if a0_0 = 3 then (spec_FitsField.j0 k 99 a0_0 a0_1 a0_2 a0_3 a1_0 l1_1) else (if a0_0 = 2 then (spec_FitsField.j0 k 255 a0_0 a0_1 a0_2 a0_3 a1_0 l1_1) else (some false)))) = some r := h
 clear h
 have HC3 := Aside0.mk H
 clear H
 go_enter Try.func58, Try.ntmps58
 go_upto_block 0 with (first | ((with_reducible refine gate_dst (N := 2) rfl ?_); (try (refine gate_guard (by rfl) ?_; dsimp only)); refine box_event ?hg (N := 2) ?hd (cs := #[.int .i64 a0_0, .int .i64 a0_1, .int .i64 a0_2, .int .i64 a0_3]) (t := 47) ?hr ?_; (case hd => rfl); (case hg => rfl); (case hr => first | (go_simp; done) | (go_simp; rfl)); intro gb118 hg w4 hbox hb; have BK118 := Aside0.mk (hbox); have GW118 := gS HB hg; have GE118 := gS HB hg; replace HB := bS HB hb; clear hb hbox hg) | ((with_reducible refine gate_dst (N := 3) rfl ?_); (try (refine gate_guard (by rfl) ?_; dsimp only)); refine box_event ?hg (N := 3) ?hd (cs := #[.int .i64 a1_0, .slice A1_1 l1_1.length c1_1]) (t := 58) ?hr ?_; (case hd => rfl); (case hg => rfl); (case hr => first | (go_simp; done) | (go_simp; rfl)); intro gb119 hg w5 hbox hb; have BK119 := Aside0.mk (hbox); have GW119 := gS HB hg; have GE119 := gS HB hg; replace HB := bS HB hb; have NB118_119 := nL BK118 hg; have NB119_118 := nR BK118 hg; replace BK118 := kB BK118 hb; clear hb hbox hg; have hnb6 := NB118_119.out; have hnc6 := NB119_118.out; have hcz7_0 := bc0 BK118; have hcz7_1 := bc1 BK118; have hcz7_2 := bc2 BK118; have hcz7_3 := bc3 BK118; have hfz7_0 := bf BK118 0; have hfz7_1 := bf BK118 1; have hfz7_2 := bf BK118 2; have hfz7_3 := bf BK118 3))
 (try simp only [Act.put, List.setIfInBounds_toArray, List.set_cons_zero, List.set_cons_succ])
 go_cut [5] (fun v5 wc => ∃ (kq : Nat) (x5_2 : Int), v5 = .int .i64 x5_2 ∧ Aside0 (spec_FitsField.j0 kq x5_2 a0_0 a0_1 a0_2 a0_3 a1_0 l1_1 = some r) ∧ Aside0 (kq ≤ k) ∧ Aside0 (wc.heap[gb118]? = some (.cells #[.int .i64 a0_0, .int .i64 a0_1, .int .i64 a0_2, .int .i64 a0_3] 47 (0, 0))) ∧ Aside0 (wc.heap[gb119]? = some (.cells #[.int .i64 a1_0, (.slice A1_1 l1_1.length c1_1)] 58 (0, 0))) ∧ Aside0 (Below w.heap.size w wc))
 case first =>
  have H := HC3.out
  clear HC3
  by_cases c8 : a0_0 = 1
  ·rw [if_pos c8] at H
   have c8b0 : (a0_0 == 1) = true := beq_iff_eq.mpr c8
   have c8b1 : (a0_0 != 1) = false := bne_eq_false_iff_eq.mpr c8
   clear c8
   (first | rw [c8b0] | (simp only [i64_w, i32_w]; rw [c8b0]) | skip)
   obtain ⟨t120, A9, H⟩ := bindS H
   by_cases c10 : t120 = true
   ·subst c10
    have H1 : (some ((l1_1.length : Int) == 0)) = some r := by rw [if_pos rfl] at H; exact H
    clear H
    have H := H1
    clear H1
    obtain rfl := Option.some.inj H
    have hnb11 := NB119_118.out
    have hnc11 := NB118_119.out
    have hcz12_0 := bc0 BK119
    have hcz12_1 := bc1 BK119
    have hfz12_0 := bf BK119 0
    have hfz12_1 := bf BK119 1
    have hcz13_0 := bc0 BK118
    have hcz13_1 := bc1 BK118
    have hcz13_2 := bc2 BK118
    have hcz13_3 := bc3 BK118
    have hfz13_0 := bf BK118 0
    have hfz13_1 := bf BK118 1
    have hfz13_2 := bf BK118 2
    have hfz13_3 := bf BK118 3
    go_wp2_with (first | ((with_reducible refine gate_callee (f := 49) rfl ?_); refine goesL_ (some 15) rfl rfl Try.func49 (by kernel_rfl) rfl #[.int .i64 a1_0, .int .i64 0, .int .i64 a0_1] rfl zG ?_; (with_reducible refine (spec_l1In.calls a1_0 0 a0_1 true _ A9.out).mono ?_); rintro e w' ⟨rfl, ⟨nd, rfl⟩⟩; refine ⟨_, rfl, ?_⟩))
    go_ret
    exact ⟨zE, zB HB⟩
   ·replace c10 := Bool.eq_false_iff.mpr c10
    subst c10
    have H1 : (some false) = some r := by rw [if_neg (show ¬ (false = true) by decide)] at H; exact H
    clear H
    have H := H1
    clear H1
    obtain rfl := Option.some.inj H
    have hnb14 := NB119_118.out
    have hnc14 := NB118_119.out
    have hcz15_0 := bc0 BK119
    have hcz15_1 := bc1 BK119
    have hfz15_0 := bf BK119 0
    have hfz15_1 := bf BK119 1
    have hcz16_0 := bc0 BK118
    have hcz16_1 := bc1 BK118
    have hcz16_2 := bc2 BK118
    have hcz16_3 := bc3 BK118
    have hfz16_0 := bf BK118 0
    have hfz16_1 := bf BK118 1
    have hfz16_2 := bf BK118 2
    have hfz16_3 := bf BK118 3
    go_wp2_with (first | ((with_reducible refine gate_callee (f := 49) rfl ?_); refine goesL_ (some 15) rfl rfl Try.func49 (by kernel_rfl) rfl #[.int .i64 a1_0, .int .i64 0, .int .i64 a0_1] rfl zG ?_; (with_reducible refine (spec_l1In.calls a1_0 0 a0_1 false _ A9.out).mono ?_); rintro e w' ⟨rfl, ⟨nd, rfl⟩⟩; refine ⟨_, rfl, ?_⟩))
    go_ret
    exact ⟨zE, zB HB⟩
  ·rw [if_neg c8] at H
   have c8b0 : (a0_0 == 1) = false := beq_eq_false_iff_ne.mpr c8
   have c8b1 : (a0_0 != 1) = true := bne_iff_ne.mpr c8
   (first | rw [c8b0] | (simp only [i64_w, i32_w]; rw [c8b0]) | skip)
   by_cases c17 : a0_0 = 3
   ·rw [if_pos c17] at H
    have c17b0 : (a0_0 == 3) = true := beq_iff_eq.mpr c17
    have c17b1 : (a0_0 != 3) = false := bne_eq_false_iff_eq.mpr c17
    clear c17
    have H' := Aside0.mk H
    clear H
    go_wp2
    go_meet
    case rel => exact ⟨_, (99), zF, H', ⟨by first | omega | exact Nat.le_refl _⟩, ⟨zK BK118⟩, ⟨zK BK119⟩, ⟨zB HB⟩⟩
   ·rw [if_neg c17] at H
    have c17b0 : (a0_0 == 3) = false := beq_eq_false_iff_ne.mpr c17
    have c17b1 : (a0_0 != 3) = true := bne_iff_ne.mpr c17
    by_cases c18 : a0_0 = 2
    ·rw [if_pos c18] at H
     have c18b0 : (a0_0 == 2) = true := beq_iff_eq.mpr c18
     have c18b1 : (a0_0 != 2) = false := bne_eq_false_iff_eq.mpr c18
     clear c18
     have H' := Aside0.mk H
     clear H
     go_wp2
     go_meet
     case rel => exact ⟨_, (255), zF, H', ⟨by first | omega | exact Nat.le_refl _⟩, ⟨zK BK118⟩, ⟨zK BK119⟩, ⟨zB HB⟩⟩
    ·rw [if_neg c18] at H
     have c18b0 : (a0_0 == 2) = false := beq_eq_false_iff_ne.mpr c18
     have c18b1 : (a0_0 != 2) = true := bne_iff_ne.mpr c18
     obtain rfl := Option.some.inj H
     go_wp2
     go_ret
     exact ⟨zE, zB HB⟩
 case rest =>
  clear HC3
  try clear c1
  try clear p2
  try clear c4
  try clear c5
  try clear c6
  try clear c8
  try clear c8b0
  try clear c8b1
  try clear c10
  try clear c11
  try clear c14
  try clear c17
  try clear c17b0
  try clear c17b1
  try clear c18
  try clear c18b0
  try clear c18b1
  try clear hcz12_0
  try clear hcz12_1
  try clear hcz13_0
  try clear hcz13_1
  try clear hcz13_2
  try clear hcz13_3
  try clear hcz15_0
  try clear hcz15_1
  try clear hcz16_0
  try clear hcz16_1
  try clear hcz16_2
  try clear hcz16_3
  try clear hcz7_0
  try clear hcz7_1
  try clear hcz7_2
  try clear hcz7_3
  try clear hfz12_0
  try clear hfz12_1
  try clear hfz13_0
  try clear hfz13_1
  try clear hfz13_2
  try clear hfz13_3
  try clear hfz15_0
  try clear hfz15_1
  try clear hfz16_0
  try clear hfz16_1
  try clear hfz16_2
  try clear hfz16_3
  try clear hfz7_0
  try clear hfz7_1
  try clear hfz7_2
  try clear hfz7_3
  obtain ⟨kq, x5_2, rfl, HA, HJ2, BK118, BK119, HB⟩ := hcut
  cases kq with
  | zero => exact absurd HA.out (by simp [spec_FitsField.j0])
  | succ kj2 =>
   have H := HA.out
   clear HA
   simp only [spec_FitsField.j0] at H
   have H' := Aside0.mk H
   clear H
   go_wp2
   go_loopg [6] kj2 (fun kq v6 w' => ∃ (x6_2 : Int), v6 = .int .i64 x6_2 ∧ Aside0 (spec_FitsField.l0 kq x5_2 x6_2 a0_0 a0_1 a0_2 a0_3 a1_0 l1_1 = some r) ∧ Aside0 (kq ≤ kj2) ∧ Aside0 (w'.heap[gb118]? = some (.cells #[.int .i64 a0_0, .int .i64 a0_1, .int .i64 a0_2, .int .i64 a0_3] 47 (0, 0))) ∧ Aside0 (w'.heap[gb119]? = some (.cells #[.int .i64 a1_0, (.slice A1_1 l1_1.length c1_1)] 58 (0, 0))) ∧ Aside0 (Below w.heap.size w w'))
   case atStart => exact ⟨(0), zF, H', ⟨Nat.le_refl _⟩, ⟨zK BK118⟩, ⟨zK BK119⟩, ⟨zB HB⟩⟩
   case round =>
    clear H'
    try clear c1
    try clear p2
    try clear c4
    try clear c5
    try clear c6
    try clear c8
    try clear c8b0
    try clear c8b1
    try clear c10
    try clear c11
    try clear c14
    try clear c17
    try clear c17b0
    try clear c17b1
    try clear c18
    try clear c18b0
    try clear c18b1
    try clear hcz12_0
    try clear hcz12_1
    try clear hcz13_0
    try clear hcz13_1
    try clear hcz13_2
    try clear hcz13_3
    try clear hcz15_0
    try clear hcz15_1
    try clear hcz16_0
    try clear hcz16_1
    try clear hcz16_2
    try clear hcz16_3
    try clear hcz7_0
    try clear hcz7_1
    try clear hcz7_2
    try clear hcz7_3
    try clear hfz12_0
    try clear hfz12_1
    try clear hfz13_0
    try clear hfz13_1
    try clear hfz13_2
    try clear hfz13_3
    try clear hfz15_0
    try clear hfz15_1
    try clear hfz16_0
    try clear hfz16_1
    try clear hfz16_2
    try clear hfz16_3
    try clear hfz7_0
    try clear hfz7_1
    try clear hfz7_2
    try clear hfz7_3
    try clear p2
    obtain ⟨x6_2, rfl, HA, HK2, BK118, BK119, HB⟩ := hrel
    cases gk with
    | zero => exact absurd HA.out (by simp [spec_FitsField.l0])
    | succ k2 =>
     have H := HA.out
     clear HA
     simp only [spec_FitsField.l0] at H
     by_cases c19 : x6_2 < (l1_1.length : Int)
     ·rw [if_pos c19] at H
      have c19b0 : decide (x6_2 < (l1_1.length : Int)) = true := decide_eq_true c19
      clear c19
      obtain ⟨c20, H⟩ := ifS H
      have c20b0 : decide (0 ≤ x6_2) = true := decide_eq_true c20
      clear c20
      obtain ⟨t122, A21, H⟩ := bindS H
      by_cases c22 : t122 = true
      ·subst c22
       have H1 : (spec_FitsField.l0 k2 x5_2 (wrap64 (x6_2 + 1)) a0_0 a0_1 a0_2 a0_3 a1_0 l1_1) = some r := by rw [if_pos rfl] at H; exact H
       clear H
       have H := H1
       clear H1
       have H' := Aside0.mk H
       clear H
       have hnb23 := NB119_118.out
       have hnc23 := NB118_119.out
       have hcz24_0 := bc0 BK119
       have hcz24_1 := bc1 BK119
       have hfz24_0 := bf BK119 0
       have hfz24_1 := bf BK119 1
       have p121 : 0 ≤ (x6_2 : Int) := zD
       have q121 : x6_2 < (l1_1.length : Int) := zD
       obtain ⟨ad121, e121, hx121_0⟩ := Kd.at_int HR1_1.out x6_2 p121 q121
       cases e121
       replace hx121_0 := hL HB hx121_0
       replace p121 := eq_true p121
       replace q121 := eq_true q121
       go_wp2_with (first | ((with_reducible refine gate_callee (f := 49) rfl ?_); refine goesL_ (some 39) rfl rfl Try.func49 (by kernel_rfl) rfl #[.int .i64 (rd l1_1 x6_2), .int .i64 0, .int .i64 x5_2] rfl zG ?_; (with_reducible refine (spec_l1In.calls (rd l1_1 x6_2) 0 x5_2 true _ A21.out).mono ?_); rintro e w' ⟨rfl, ⟨nd, rfl⟩⟩; refine ⟨_, rfl, ?_⟩))
       go_roundg k2
       case measure => have := HJ2.out; have := HK2.out; omega
       case rel => exact ⟨(wrap64 (x6_2 + 1)), zF, H', ⟨by have := HJ2.out; have := HK2.out; omega⟩, ⟨zK BK118⟩, ⟨zK BK119⟩, ⟨zB HB⟩⟩
      ·replace c22 := Bool.eq_false_iff.mpr c22
       subst c22
       have H1 : (some false) = some r := by rw [if_neg (show ¬ (false = true) by decide)] at H; exact H
       clear H
       have H := H1
       clear H1
       obtain rfl := Option.some.inj H
       have hnb25 := NB119_118.out
       have hnc25 := NB118_119.out
       have hcz26_0 := bc0 BK119
       have hcz26_1 := bc1 BK119
       have hfz26_0 := bf BK119 0
       have hfz26_1 := bf BK119 1
       have p121 : 0 ≤ (x6_2 : Int) := zD
       have q121 : x6_2 < (l1_1.length : Int) := zD
       obtain ⟨ad121, e121, hx121_0⟩ := Kd.at_int HR1_1.out x6_2 p121 q121
       cases e121
       replace hx121_0 := hL HB hx121_0
       replace p121 := eq_true p121
       replace q121 := eq_true q121
       go_wp2_with (first | ((with_reducible refine gate_callee (f := 49) rfl ?_); refine goesL_ (some 39) rfl rfl Try.func49 (by kernel_rfl) rfl #[.int .i64 (rd l1_1 x6_2), .int .i64 0, .int .i64 x5_2] rfl zG ?_; (with_reducible refine (spec_l1In.calls (rd l1_1 x6_2) 0 x5_2 false _ A21.out).mono ?_); rintro e w' ⟨rfl, ⟨nd, rfl⟩⟩; refine ⟨_, rfl, ?_⟩))
       go_ret
       exact ⟨zE, zB HB⟩
     ·rw [if_neg c19] at H
      have c19b0 : decide (x6_2 < (l1_1.length : Int)) = false := decide_eq_false c19
      clear c19
      by_cases c27 : a1_0 = 0
      ·rw [if_pos c27] at H
       have c27b0 : (a1_0 == 0) = true := beq_iff_eq.mpr c27
       have c27b1 : (a1_0 != 0) = false := bne_eq_false_iff_eq.mpr c27
       clear c27
       obtain rfl := Option.some.inj H
       have hnb28 := NB119_118.out
       have hnc28 := NB118_119.out
       have hcz29_0 := bc0 BK119
       have hcz29_1 := bc1 BK119
       have hfz29_0 := bf BK119 0
       have hfz29_1 := bf BK119 1
       have hcz30_0 := bc0 BK118
       have hcz30_1 := bc1 BK118
       have hcz30_2 := bc2 BK118
       have hcz30_3 := bc3 BK118
       have hfz30_0 := bf BK118 0
       have hfz30_1 := bf BK118 1
       have hfz30_2 := bf BK118 2
       have hfz30_3 := bf BK118 3
       go_wp2
       go_ret
       exact ⟨zE, zB HB⟩
      ·rw [if_neg c27] at H
       have c27b0 : (a1_0 == 0) = false := beq_eq_false_iff_ne.mpr c27
       have c27b1 : (a1_0 != 0) = true := bne_iff_ne.mpr c27
       obtain rfl := Option.some.inj H
       have hnb31 := NB119_118.out
       have hnc31 := NB118_119.out
       have hcz32_0 := bc0 BK119
       have hcz32_1 := bc1 BK119
       have hfz32_0 := bf BK119 0
       have hfz32_1 := bf BK119 1
       go_wp2
       go_ret
       exact ⟨zE, zB HB⟩

/-! ### spec_l6Read: function 44 -/
def spec_l6Read.f (k : Nat) (a0_0 : Int) (a0_1 : Int) (a0_2 : Int) (a0_3 : Int) (l1 : List Int) (a2 : Int) : Option (Int × List Int × Int) := if a2 ≥ (l1.length : Int) then (some (0, ([] : List Int), (-1))) else (if 0 ≤ a2 then (if a2 < (l1.length : Int) then (if a0_0 = 1 then ((spec_FitsField.f k a0_0 a0_1 a0_2 a0_3 (rd l1 a2) ([] : List Int)).bind fun t127 => (if t127 = true then (some (rd l1 a2, ([] : List Int), wrap64 (a2 + 1))) else (some (0, ([] : List Int), (-1))))) else ((spec_l1In.f (rd l1 a2) 0 (wrap64 ((wrap64 ((l1.length : Int) - a2)) - 1))).bind fun t129 => (if t129 = true then ((some (([] : List Int) : List Int)).bind fun y131 => (if 0 ≤ (wrap64 (a2 + 1)) then (if (wrap64 (a2 + 1)) ≤ (wrap64 ((wrap64 (a2 + 1)) + (rd l1 a2))) then (if (wrap64 ((wrap64 (a2 + 1)) + (rd l1 a2))) ≤ (l1.length : Int) then (if y131.length + ((l1.take ((wrap64 ((wrap64 (a2 + 1)) + (rd l1 a2))) : Int).toNat).drop ((wrap64 (a2 + 1)) : Int).toNat).length < 17592186044416 then ((some (y131 ++ ((l1.take ((wrap64 ((wrap64 (a2 + 1)) + (rd l1 a2))) : Int).toNat).drop ((wrap64 (a2 + 1)) : Int).toNat) : List Int)).bind fun y135 => ((spec_FitsField.f k a0_0 a0_1 a0_2 a0_3 0 y135).bind fun t138 => (if t138 = true then (some (0, y135, wrap64 ((wrap64 (a2 + 1)) + (rd l1 a2)))) else (some (0, ([] : List Int), (-1)))))) else (none)) else (none)) else (none)) else (none))) else (some (0, ([] : List Int), (-1)))))) else (none)) else (none))
theorem spec_l6Read.mono : ∀ a0 a1 a2 a3 a4 a5 k, LeO (spec_l6Read.f k a0 a1 a2 a3 a4 a5) (spec_l6Read.f (k + 1) a0 a1 a2 a3 a4 a5) := by
 intro a0 a1 a2 a3 a4 a5 k
 unfold spec_l6Read.f
 repeat' first
   | (with_reducible exact spec_FitsField.mono _ _ _ _ _ _ _)
   | (with_reducible exact LeO.refl _)
   | (with_reducible exact LeO.none _)
   | (with_reducible refine LeO.ite ?_ ?_)
   | (with_reducible refine LeO.bind ?_ (fun _ => ?_))
   | exact spec_FitsField.mono _ _ _ _ _ _ _
   | exact LeO.none _
   | refine LeO.ite ?_ ?_
   | refine LeO.bind ?_ (fun _ => ?_)
set_option maxHeartbeats 8000000 in
set_option maxRecDepth 100000 in
theorem spec_l6Read.calls (k : Nat) (a0_0 : Int) (a0_1 : Int) (a0_2 : Int) (a0_3 : Int) (A1 : Option Addr) (c1 : Nat) (l1 : List Int) (a2 : Int) (r1 : Int) (r2 : List Int) (r3 : Int) (w : World) (hr1 : Kd.C (Kd.int .i64) w A1 l1.length l1) (hc1 : l1.length ≤ c1) (h : spec_l6Read.f k a0_0 a0_1 a0_2 a0_3 l1 a2 = some (r1, r2, r3)) :
  Calls Try.prog 44 #[.agg #[.int .i64 a0_0, .int .i64 a0_1, .int .i64 a0_2, .int .i64 a0_3], .slice A1 l1.length c1, .int .i64 a2] w fun e w' => ∃ v1_ : Value, e = .returned (.tuple #[.agg #[.int .i64 r1, v1_], .int .i64 r3]) ∧ Kd.R (Kd.int .i64) 3 w' w.heap.size (fun _ => True) v1_ r2 ∧ Below w.heap.size w w' := by
 have hu47 := Try.underlying47
 have hu58 := Try.underlying58
 have HR1 := Aside0.mk hr1
 have HC1 := Aside0.mk hc1
 clear hr1 hc1
 have HB := Aside0.mk (Below.refl w.heap.size w)
 have H : (if a2 ≥ (l1.length : Int) then (some (0, ([] : List Int), (-1))) else (if 0 ≤ a2 then (if a2 < (l1.length : Int) then (if a0_0 = 1 then ((spec_FitsField.f k a0_0 a0_1 a0_2 a0_3 (rd l1 a2) ([] : List Int)).bind fun t127 => (if t127 = true then (some (rd l1 a2, ([] : List Int), wrap64 (a2 + 1))) else (some (0, ([] : List Int), (-1))))) else ((spec_l1In.f (rd l1 a2) 0 (wrap64 ((wrap64 ((l1.length : Int) - a2)) - 1))).bind fun t129 => (if t129 = true then ((some (([] : List Int) : List Int)).bind fun y131 => (if 0 ≤ (wrap64 (a2 + 1)) then (if (wrap64 (a2 + 1)) ≤ (wrap64 ((wrap64 (a2 + 1)) + (rd l1 a2))) then (if (wrap64 ((wrap64 (a2 + 1)) + (rd l1 a2))) ≤ (l1.length : Int) then (if y131.length + ((l1.take ((wrap64 ((wrap64 (a2 + 1)) + (rd l1 a2))) : Int).toNat).drop ((wrap64 (a2 + 1)) : Int).toNat).length < 17592186044416 then ((some (y131 ++ ((l1.take ((wrap64 ((wrap64 (a2 + 1)) + (rd l1 a2))) : Int).toNat).drop ((wrap64 (a2 + 1)) : Int).toNat) : List Int)).bind fun y135 => ((spec_FitsField.f k a0_0 a0_1 a0_2 a0_3 0 y135).bind fun t138 => (if t138 = true then (some (0, y135, wrap64 ((wrap64 (a2 + 1)) + (rd l1 a2)))) else (some (0, ([] : List Int), (-1)))))) else (none)) else (none)) else (none)) else (none))) else (some (0, ([] : List Int), (-1)))))) else (none)) else (none))) = some (r1, r2, r3) := h
 clear h
 by_cases c4 : a2 ≥ (l1.length : Int)
 ·rw [if_pos c4] at H
  have c4b0 : decide ((l1.length : Int) ≤ a2) = true := decide_eq_true c4
  clear c4
  simp only [Option.some.injEq, Prod.mk.injEq] at H
  obtain ⟨rfl, rfl, rfl⟩ := H
  go_enter Try.func44, Try.ntmps44
  go_wp2_with (first | ((with_reducible refine gate_dst (N := 3) rfl ?_); refine box_event ?hg (N := 3) ?hd (cs := #[.int .i64 a0_0, .int .i64 a0_1, .int .i64 a0_2, .int .i64 a0_3]) (t := 47) ?hr ?_; (case hd => rfl); (case hg => rfl); (case hr => first | (go_simp; done) | (go_simp; rfl)); intro gb123 hg w5 hbox hb; have BK123 := Aside0.mk (hbox); have GW123 := gS HB hg; have GE123 := gS HB hg; replace HB := bS HB hb; clear hb hbox hg) | ((with_reducible refine gate_dst (N := 6) rfl ?_); refine box_event ?hg (N := 6) ?hd (cs := #[.int .i64 0, .slice none 0 0]) (t := 58) ?hr ?_; (case hd => rfl); (case hg => rfl); (case hr => first | (go_simp; done) | (go_simp; rfl)); intro gb124 hg w6 hbox hb; have BK124 := Aside0.mk (hbox); have GW124 := gS HB hg; have GE124 := gS HB hg; replace HB := bS HB hb; have NB123_124 := nL BK123 hg; have NB124_123 := nR BK123 hg; replace BK123 := kB BK123 hb; clear hb hbox hg; have hnb7 := NB124_123.out; have hnc7 := NB123_124.out; have hcz8_0 := bc0 BK124; have hcz8_1 := bc1 BK124; have hfz8_0 := bf BK124 0; have hfz8_1 := bf BK124 1))
  refine bodyPost_ret (results_ct rfl _ _ gb124 58 #[.int .i64 0, .slice none 0 0] (0, 0) _ rfl (by (with_reducible repeat (first | refine blk_drewN ?_ _ | refine blk_drew ?_ | refine blk_alloc ?_ _)); refine blk_put (cs := #[.int .i64 0, .slice none 0 0]) ?_ 1 _ rfl; (with_reducible repeat (first | refine blk_drewN ?_ _ | refine blk_drew ?_ | refine blk_alloc ?_ _)); refine blk_put (cs := #[.int .i64 0, .slice none 0 0]) ?_ 0 _ rfl; (with_reducible repeat (first | refine blk_drewN ?_ _ | refine blk_drew ?_ | refine blk_alloc ?_ _)); exact BK124.out) Try.underlying58 rfl (by kernel_rfl)) rfl ?_
  exact ⟨_, zE, by first | exact Kd.R_nil _ _ _ _ _ | exact Kd.N_nil _ _ _ _ _ | exact Kd.V_nil _ _ _ _ _ | exact Kd.Q_nil _ _ _ _ _ | exact Kd.S_nil _ _ _ _ _, zB HB⟩
 ·rw [if_neg c4] at H
  have c4b0 : decide ((l1.length : Int) ≤ a2) = false := decide_eq_false c4
  clear c4
  by_cases c9 : 0 ≤ a2
  ·rw [if_pos c9] at H
   have c9b0 : decide (0 ≤ a2) = true := decide_eq_true c9
   clear c9
   obtain ⟨c10, H⟩ := ifS H
   have c10b0 : decide (a2 < (l1.length : Int)) = true := decide_eq_true c10
   clear c10
   by_cases c11 : a0_0 = 1
   ·rw [if_pos c11] at H
    have c11b0 : (a0_0 == 1) = true := beq_iff_eq.mpr c11
    have c11b1 : (a0_0 != 1) = false := bne_eq_false_iff_eq.mpr c11
    clear c11
    obtain ⟨t127, A12, H⟩ := bindS H
    by_cases c13 : t127 = true
    ·subst c13
     have H1 : (some (rd l1 a2, ([] : List Int), wrap64 (a2 + 1))) = some (r1, r2, r3) := by rw [if_pos rfl] at H; exact H
     clear H
     have H := H1
     clear H1
     simp only [Option.some.injEq, Prod.mk.injEq] at H
     obtain ⟨rfl, rfl, rfl⟩ := H
     go_enter Try.func44, Try.ntmps44
     go_wp2_with (first | ((with_reducible refine gate_dst (N := 3) rfl ?_); refine box_event ?hg (N := 3) ?hd (cs := #[.int .i64 a0_0, .int .i64 a0_1, .int .i64 a0_2, .int .i64 a0_3]) (t := 47) ?hr ?_; (case hd => rfl); (case hg => rfl); (case hr => first | (go_simp; done) | (go_simp; rfl)); intro gb123 hg w14 hbox hb; have BK123 := Aside0.mk (hbox); have GW123 := gS HB hg; have GE123 := gS HB hg; replace HB := bS HB hb; clear hb hbox hg) | ((with_reducible refine gate_dst (N := 6) rfl ?_); refine box_event ?hg (N := 6) ?hd (cs := #[.int .i64 0, .slice none 0 0]) (t := 58) ?hr ?_; (case hd => rfl); (case hg => rfl); (case hr => first | (go_simp; done) | (go_simp; rfl)); intro gb124 hg w15 hbox hb; have BK124 := Aside0.mk (hbox); have GW124 := gS HB hg; have GE124 := gS HB hg; replace HB := bS HB hb; have NB123_124 := nL BK123 hg; have NB124_123 := nR BK123 hg; replace BK123 := kB BK123 hb; clear hb hbox hg; have p125 : 0 ≤ (a2 : Int) := zD; have q125 : a2 < (l1.length : Int) := zD; obtain ⟨ad125, e125, hx125_0⟩ := Kd.at_int HR1.out a2 p125 q125; cases e125; replace hx125_0 := hL HB hx125_0; replace p125 := eq_true p125; replace q125 := eq_true q125) | ((with_reducible refine gate_dst (N := 8) rfl ?_); refine box_event ?hg (N := 8) ?hd (cs := #[.int .i64 0, .slice none 0 0]) (t := 58) ?hr ?_; (case hd => rfl); (case hg => rfl); (case hr => first | (go_simp; done) | (go_simp; rfl)); intro gb126 hg w16 hbox hb; have BK126 := Aside0.mk (hbox); have GW126 := gS HB hg; have GE126 := gS HB hg; replace HB := bS HB hb; have NB123_126 := nL BK123 hg; have NB126_123 := nR BK123 hg; replace BK123 := kB BK123 hb; have NB124_126 := nL BK124 hg; have NB126_124 := nR BK124 hg; replace BK124 := kB BK124 hb; clear hb hbox hg; have hnb17 := NB126_123.out; have hnc17 := NB123_126.out; have hnb18 := NB126_124.out; have hnc18 := NB124_126.out; have hcz19_0 := bc0 BK126; have hcz19_1 := bc1 BK126; have hfz19_0 := bf BK126 0; have hfz19_1 := bf BK126 1; have hnb20 := NB123_124.out; have hnc20 := NB124_123.out; have hcz21_0 := bc0 BK123; have hcz21_1 := bc1 BK123; have hcz21_2 := bc2 BK123; have hcz21_3 := bc3 BK123; have hfz21_0 := bf BK123 0; have hfz21_1 := bf BK123 1; have hfz21_2 := bf BK123 2; have hfz21_3 := bf BK123 3) | ((with_reducible refine gate_callee (f := 58) rfl ?_); refine goesL_ (some 54) rfl rfl Try.func58 (by kernel_rfl) rfl #[.agg #[.int .i64 a0_0, .int .i64 a0_1, .int .i64 a0_2, .int .i64 a0_3], .agg #[.int .i64 (rd l1 a2), .slice none 0 0]] rfl zG ?_; (refine (spec_FitsField.calls k a0_0 a0_1 a0_2 a0_3 (rd l1 a2) _ _ ([] : List Int) true _ ?side1 ?side2 A12.out).mono ?_); (case side1 => exact Kd.C_nil _ _); (case side2 => exact Nat.le_refl _); rintro e w22 ⟨rfl, hb⟩; refine ⟨_, rfl, ?_⟩; replace BK123 := Aside0.mk (blk_below (g := gb123) (o := .cells #[.int .i64 a0_0, .int .i64 a0_1, .int .i64 a0_2, .int .i64 a0_3] 47 (0, 0)) (by (with_reducible repeat (first | refine blk_drewN ?_ _ | refine blk_drew ?_ | refine blk_alloc ?_ _)); refine blk_far ?_ NB123_126.out _; (with_reducible repeat (first | refine blk_drewN ?_ _ | refine blk_drew ?_ | refine blk_alloc ?_ _)); refine blk_far ?_ NB123_126.out _; (with_reducible repeat (first | refine blk_drewN ?_ _ | refine blk_drew ?_ | refine blk_alloc ?_ _)); exact BK123.out) hb); replace BK124 := Aside0.mk (blk_below (g := gb124) (o := .cells #[.int .i64 0, .slice none 0 0] 58 (0, 0)) (by (with_reducible repeat (first | refine blk_drewN ?_ _ | refine blk_drew ?_ | refine blk_alloc ?_ _)); refine blk_far ?_ NB124_126.out _; (with_reducible repeat (first | refine blk_drewN ?_ _ | refine blk_drew ?_ | refine blk_alloc ?_ _)); refine blk_far ?_ NB124_126.out _; (with_reducible repeat (first | refine blk_drewN ?_ _ | refine blk_drew ?_ | refine blk_alloc ?_ _)); exact BK124.out) hb); replace BK126 := Aside0.mk (blk_below (g := gb126) (o := .cells #[.int .i64 (rd l1 a2), .slice none 0 0] 58 (0, 0)) (by (with_reducible repeat (first | refine blk_drewN ?_ _ | refine blk_drew ?_ | refine blk_alloc ?_ _)); refine blk_put (cs := #[.int .i64 (rd l1 a2), .slice none 0 0]) ?_ 1 _ rfl; (with_reducible repeat (first | refine blk_drewN ?_ _ | refine blk_drew ?_ | refine blk_alloc ?_ _)); refine blk_put (cs := #[.int .i64 0, .slice none 0 0]) ?_ 0 _ rfl; (with_reducible repeat (first | refine blk_drewN ?_ _ | refine blk_drew ?_ | refine blk_alloc ?_ _)); exact BK126.out) hb); replace HB := bS HB hb; (try clear hb); have hcz23_0 := bc0 BK126; have hcz23_1 := bc1 BK126; have hfz23_0 := bf BK126 0; have hfz23_1 := bf BK126 1; have hcz24_0 := bc0 BK124; have hcz24_1 := bc1 BK124; have hfz24_0 := bf BK124 0; have hfz24_1 := bf BK124 1))
     refine bodyPost_ret (results_ct rfl _ _ gb124 58 #[.int .i64 (rd l1 a2), .slice none 0 0] (0, 0) _ rfl (by (with_reducible repeat (first | refine blk_drewN ?_ _ | refine blk_drew ?_ | refine blk_alloc ?_ _)); refine blk_put (cs := #[.int .i64 (rd l1 a2), .slice none 0 0]) ?_ 1 _ rfl; (with_reducible repeat (first | refine blk_drewN ?_ _ | refine blk_drew ?_ | refine blk_alloc ?_ _)); refine blk_put (cs := #[.int .i64 0, .slice none 0 0]) ?_ 0 _ rfl; (with_reducible repeat (first | refine blk_drewN ?_ _ | refine blk_drew ?_ | refine blk_alloc ?_ _)); exact BK124.out) Try.underlying58 rfl (by kernel_rfl)) rfl ?_
     exact ⟨_, zE, by first | exact Kd.R_nil _ _ _ _ _ | exact Kd.N_nil _ _ _ _ _ | exact Kd.V_nil _ _ _ _ _ | exact Kd.Q_nil _ _ _ _ _ | exact Kd.S_nil _ _ _ _ _, zB HB⟩
    ·replace c13 := Bool.eq_false_iff.mpr c13
     subst c13
     have H1 : (some (0, ([] : List Int), (-1))) = some (r1, r2, r3) := by rw [if_neg (show ¬ (false = true) by decide)] at H; exact H
     clear H
     have H := H1
     clear H1
     simp only [Option.some.injEq, Prod.mk.injEq] at H
     obtain ⟨rfl, rfl, rfl⟩ := H
     go_enter Try.func44, Try.ntmps44
     go_wp2_with (first | ((with_reducible refine gate_dst (N := 3) rfl ?_); refine box_event ?hg (N := 3) ?hd (cs := #[.int .i64 a0_0, .int .i64 a0_1, .int .i64 a0_2, .int .i64 a0_3]) (t := 47) ?hr ?_; (case hd => rfl); (case hg => rfl); (case hr => first | (go_simp; done) | (go_simp; rfl)); intro gb123 hg w25 hbox hb; have BK123 := Aside0.mk (hbox); have GW123 := gS HB hg; have GE123 := gS HB hg; replace HB := bS HB hb; clear hb hbox hg) | ((with_reducible refine gate_dst (N := 6) rfl ?_); refine box_event ?hg (N := 6) ?hd (cs := #[.int .i64 0, .slice none 0 0]) (t := 58) ?hr ?_; (case hd => rfl); (case hg => rfl); (case hr => first | (go_simp; done) | (go_simp; rfl)); intro gb124 hg w26 hbox hb; have BK124 := Aside0.mk (hbox); have GW124 := gS HB hg; have GE124 := gS HB hg; replace HB := bS HB hb; have NB123_124 := nL BK123 hg; have NB124_123 := nR BK123 hg; replace BK123 := kB BK123 hb; clear hb hbox hg; have p125 : 0 ≤ (a2 : Int) := zD; have q125 : a2 < (l1.length : Int) := zD; obtain ⟨ad125, e125, hx125_0⟩ := Kd.at_int HR1.out a2 p125 q125; cases e125; replace hx125_0 := hL HB hx125_0; replace p125 := eq_true p125; replace q125 := eq_true q125) | ((with_reducible refine gate_dst (N := 8) rfl ?_); refine box_event ?hg (N := 8) ?hd (cs := #[.int .i64 0, .slice none 0 0]) (t := 58) ?hr ?_; (case hd => rfl); (case hg => rfl); (case hr => first | (go_simp; done) | (go_simp; rfl)); intro gb126 hg w27 hbox hb; have BK126 := Aside0.mk (hbox); have GW126 := gS HB hg; have GE126 := gS HB hg; replace HB := bS HB hb; have NB123_126 := nL BK123 hg; have NB126_123 := nR BK123 hg; replace BK123 := kB BK123 hb; have NB124_126 := nL BK124 hg; have NB126_124 := nR BK124 hg; replace BK124 := kB BK124 hb; clear hb hbox hg; have hnb28 := NB126_123.out; have hnc28 := NB123_126.out; have hnb29 := NB126_124.out; have hnc29 := NB124_126.out; have hcz30_0 := bc0 BK126; have hcz30_1 := bc1 BK126; have hfz30_0 := bf BK126 0; have hfz30_1 := bf BK126 1; have hnb31 := NB123_124.out; have hnc31 := NB124_123.out; have hcz32_0 := bc0 BK123; have hcz32_1 := bc1 BK123; have hcz32_2 := bc2 BK123; have hcz32_3 := bc3 BK123; have hfz32_0 := bf BK123 0; have hfz32_1 := bf BK123 1; have hfz32_2 := bf BK123 2; have hfz32_3 := bf BK123 3) | ((with_reducible refine gate_callee (f := 58) rfl ?_); refine goesL_ (some 54) rfl rfl Try.func58 (by kernel_rfl) rfl #[.agg #[.int .i64 a0_0, .int .i64 a0_1, .int .i64 a0_2, .int .i64 a0_3], .agg #[.int .i64 (rd l1 a2), .slice none 0 0]] rfl zG ?_; (refine (spec_FitsField.calls k a0_0 a0_1 a0_2 a0_3 (rd l1 a2) _ _ ([] : List Int) false _ ?side1 ?side2 A12.out).mono ?_); (case side1 => exact Kd.C_nil _ _); (case side2 => exact Nat.le_refl _); rintro e w33 ⟨rfl, hb⟩; refine ⟨_, rfl, ?_⟩; replace BK123 := Aside0.mk (blk_below (g := gb123) (o := .cells #[.int .i64 a0_0, .int .i64 a0_1, .int .i64 a0_2, .int .i64 a0_3] 47 (0, 0)) (by (with_reducible repeat (first | refine blk_drewN ?_ _ | refine blk_drew ?_ | refine blk_alloc ?_ _)); refine blk_far ?_ NB123_126.out _; (with_reducible repeat (first | refine blk_drewN ?_ _ | refine blk_drew ?_ | refine blk_alloc ?_ _)); refine blk_far ?_ NB123_126.out _; (with_reducible repeat (first | refine blk_drewN ?_ _ | refine blk_drew ?_ | refine blk_alloc ?_ _)); exact BK123.out) hb); replace BK124 := Aside0.mk (blk_below (g := gb124) (o := .cells #[.int .i64 0, .slice none 0 0] 58 (0, 0)) (by (with_reducible repeat (first | refine blk_drewN ?_ _ | refine blk_drew ?_ | refine blk_alloc ?_ _)); refine blk_far ?_ NB124_126.out _; (with_reducible repeat (first | refine blk_drewN ?_ _ | refine blk_drew ?_ | refine blk_alloc ?_ _)); refine blk_far ?_ NB124_126.out _; (with_reducible repeat (first | refine blk_drewN ?_ _ | refine blk_drew ?_ | refine blk_alloc ?_ _)); exact BK124.out) hb); replace BK126 := Aside0.mk (blk_below (g := gb126) (o := .cells #[.int .i64 (rd l1 a2), .slice none 0 0] 58 (0, 0)) (by (with_reducible repeat (first | refine blk_drewN ?_ _ | refine blk_drew ?_ | refine blk_alloc ?_ _)); refine blk_put (cs := #[.int .i64 (rd l1 a2), .slice none 0 0]) ?_ 1 _ rfl; (with_reducible repeat (first | refine blk_drewN ?_ _ | refine blk_drew ?_ | refine blk_alloc ?_ _)); refine blk_put (cs := #[.int .i64 0, .slice none 0 0]) ?_ 0 _ rfl; (with_reducible repeat (first | refine blk_drewN ?_ _ | refine blk_drew ?_ | refine blk_alloc ?_ _)); exact BK126.out) hb); replace HB := bS HB hb; (try clear hb); have hcz34_0 := bc0 BK124; have hcz34_1 := bc1 BK124; have hfz34_0 := bf BK124 0; have hfz34_1 := bf BK124 1))
     refine bodyPost_ret (results_ct rfl _ _ gb124 58 #[.int .i64 0, .slice none 0 0] (0, 0) _ rfl (by (with_reducible repeat (first | refine blk_drewN ?_ _ | refine blk_drew ?_ | refine blk_alloc ?_ _)); refine blk_put (cs := #[.int .i64 0, .slice none 0 0]) ?_ 1 _ rfl; (with_reducible repeat (first | refine blk_drewN ?_ _ | refine blk_drew ?_ | refine blk_alloc ?_ _)); refine blk_put (cs := #[.int .i64 0, .slice none 0 0]) ?_ 0 _ rfl; (with_reducible repeat (first | refine blk_drewN ?_ _ | refine blk_drew ?_ | refine blk_alloc ?_ _)); exact BK124.out) Try.underlying58 rfl (by kernel_rfl)) rfl ?_
     exact ⟨_, zE, by first | exact Kd.R_nil _ _ _ _ _ | exact Kd.N_nil _ _ _ _ _ | exact Kd.V_nil _ _ _ _ _ | exact Kd.Q_nil _ _ _ _ _ | exact Kd.S_nil _ _ _ _ _, zB HB⟩
   ·rw [if_neg c11] at H
    have c11b0 : (a0_0 == 1) = false := beq_eq_false_iff_ne.mpr c11
    have c11b1 : (a0_0 != 1) = true := bne_iff_ne.mpr c11
    obtain ⟨t129, A35, H⟩ := bindS H
    by_cases c36 : t129 = true
    ·subst c36
     have H1 : ((some (([] : List Int) : List Int)).bind fun y131 => (if 0 ≤ (wrap64 (a2 + 1)) then (if (wrap64 (a2 + 1)) ≤ (wrap64 ((wrap64 (a2 + 1)) + (rd l1 a2))) then (if (wrap64 ((wrap64 (a2 + 1)) + (rd l1 a2))) ≤ (l1.length : Int) then (if y131.length + ((l1.take ((wrap64 ((wrap64 (a2 + 1)) + (rd l1 a2))) : Int).toNat).drop ((wrap64 (a2 + 1)) : Int).toNat).length < 17592186044416 then ((some (y131 ++ ((l1.take ((wrap64 ((wrap64 (a2 + 1)) + (rd l1 a2))) : Int).toNat).drop ((wrap64 (a2 + 1)) : Int).toNat) : List Int)).bind fun y135 => ((spec_FitsField.f k a0_0 a0_1 a0_2 a0_3 0 y135).bind fun t138 => (if t138 = true then (some (0, y135, wrap64 ((wrap64 (a2 + 1)) + (rd l1 a2)))) else (some (0, ([] : List Int), (-1)))))) else (none)) else (none)) else (none)) else (none))) = some (r1, r2, r3) := by rw [if_pos rfl] at H; exact H
     clear H
     have H := H1
     clear H1
     obtain ⟨y131, hy131⟩ : ∃ y_ : List Int, y_ = (([] : List Int)) := ⟨_, rfl⟩
     replace H : (if 0 ≤ (wrap64 (a2 + 1)) then (if (wrap64 (a2 + 1)) ≤ (wrap64 ((wrap64 (a2 + 1)) + (rd l1 a2))) then (if (wrap64 ((wrap64 (a2 + 1)) + (rd l1 a2))) ≤ (l1.length : Int) then (if y131.length + ((l1.take ((wrap64 ((wrap64 (a2 + 1)) + (rd l1 a2))) : Int).toNat).drop ((wrap64 (a2 + 1)) : Int).toNat).length < 17592186044416 then ((some (y131 ++ ((l1.take ((wrap64 ((wrap64 (a2 + 1)) + (rd l1 a2))) : Int).toNat).drop ((wrap64 (a2 + 1)) : Int).toNat) : List Int)).bind fun y135 => ((spec_FitsField.f k a0_0 a0_1 a0_2 a0_3 0 y135).bind fun t138 => (if t138 = true then (some (0, y135, wrap64 ((wrap64 (a2 + 1)) + (rd l1 a2)))) else (some (0, ([] : List Int), (-1)))))) else (none)) else (none)) else (none)) else (none)) = some (r1, r2, r3) := by first | (rw [hy131]; with_reducible exact H) | (have H2_ := (Option.bind_some _ _).symm.trans H; rw [hy131]; with_reducible exact H2_) | (have H2_ := (Option.bind_some _ _).symm.trans H; with_reducible exact H2_) | with_reducible exact H | (rw [hy131]; exact H) | exact H
     have Ny131 := Aside0.mk hy131
     clear hy131
     obtain ⟨ji37, hji37⟩ : ∃ j_ : Int, (wrap64 (a2 + 1)) = j_ := ⟨_, rfl⟩
     replace H : (if 0 ≤ (ji37) then (if (ji37) ≤ (wrap64 ((ji37) + (rd l1 a2))) then (if (wrap64 ((ji37) + (rd l1 a2))) ≤ (l1.length : Int) then (if y131.length + ((l1.take ((wrap64 ((ji37) + (rd l1 a2))) : Int).toNat).drop ((ji37) : Int).toNat).length < 17592186044416 then ((some (y131 ++ ((l1.take ((wrap64 ((ji37) + (rd l1 a2))) : Int).toNat).drop ((ji37) : Int).toNat) : List Int)).bind fun y135 => ((spec_FitsField.f k a0_0 a0_1 a0_2 a0_3 0 y135).bind fun t138 => (if t138 = true then (some (0, y135, wrap64 ((ji37) + (rd l1 a2)))) else (some (0, ([] : List Int), (-1)))))) else (none)) else (none)) else (none)) else (none)) = some (r1, r2, r3) := by first | (rw [hji37] at H; exact H) | (simp only [hji37] at H ⊢; exact H)
     (try rw [hji37] at A35)
     have hji37w : (IntKind.i64.wrap (a2 + 1)) = ji37 := (i64_w _).trans hji37
     obtain ⟨c38, H⟩ := ifS H
     have c38b0 := eq_true c38
     have c38b1 : decide (0 ≤ (ji37)) = true := decide_eq_true c38
     clear c38
     obtain ⟨c39, H⟩ := ifS H
     have c39b0 := eq_true c39
     have c39b1 : decide ((ji37) ≤ (wrap64 ((ji37) + (rd l1 a2)))) = true := decide_eq_true c39
     obtain ⟨c40, H⟩ := ifS H
     have c40b0 := eq_true c40
     have c40b1 : decide ((wrap64 ((ji37) + (rd l1 a2))) ≤ (l1.length : Int)) = true := decide_eq_true c40
     obtain ⟨c41, H⟩ := ifS H
     have LMc41 := Aside0.mk c41
     clear c41
     obtain ⟨y135, hy135⟩ : ∃ y_ : List Int, y_ = (y131 ++ ((l1.take ((wrap64 ((ji37) + (rd l1 a2))) : Int).toNat).drop ((ji37) : Int).toNat)) := ⟨_, rfl⟩
     replace H : ((spec_FitsField.f k a0_0 a0_1 a0_2 a0_3 0 y135).bind fun t138 => (if t138 = true then (some (0, y135, wrap64 ((ji37) + (rd l1 a2)))) else (some (0, ([] : List Int), (-1))))) = some (r1, r2, r3) := by first | (rw [hy135]; with_reducible exact H) | (have H2_ := (Option.bind_some _ _).symm.trans H; rw [hy135]; with_reducible exact H2_) | (have H2_ := (Option.bind_some _ _).symm.trans H; with_reducible exact H2_) | with_reducible exact H | (rw [hy135]; exact H) | exact H
     have Ny135 := Aside0.mk hy135
     clear hy135
     obtain ⟨t138, A42, H⟩ := bindS H
     by_cases c43 : t138 = true
     ·subst c43
      have H1 : (some (0, y135, wrap64 ((ji37) + (rd l1 a2)))) = some (r1, r2, r3) := by rw [if_pos rfl] at H; exact H
      clear H
      have H := H1
      clear H1
      simp only [Option.some.injEq, Prod.mk.injEq] at H
      obtain ⟨rfl, rfl, rfl⟩ := H
      go_enter Try.func44, Try.ntmps44
      go_wp2_with (first | ((with_reducible refine gate_dst (N := 3) rfl ?_); refine box_event ?hg (N := 3) ?hd (cs := #[.int .i64 a0_0, .int .i64 a0_1, .int .i64 a0_2, .int .i64 a0_3]) (t := 47) ?hr ?_; (case hd => rfl); (case hg => rfl); (case hr => first | (go_simp; done) | (go_simp; rfl)); intro gb123 hg w44 hbox hb; have BK123 := Aside0.mk (hbox); have GW123 := gS HB hg; have GE123 := gS HB hg; replace HB := bS HB hb; clear hb hbox hg) | ((with_reducible refine gate_dst (N := 6) rfl ?_); refine box_event ?hg (N := 6) ?hd (cs := #[.int .i64 0, .slice none 0 0]) (t := 58) ?hr ?_; (case hd => rfl); (case hg => rfl); (case hr => first | (go_simp; done) | (go_simp; rfl)); intro gb124 hg w45 hbox hb; have BK124 := Aside0.mk (hbox); have GW124 := gS HB hg; have GE124 := gS HB hg; replace HB := bS HB hb; have NB123_124 := nL BK123 hg; have NB124_123 := nR BK123 hg; replace BK123 := kB BK123 hb; clear hb hbox hg; have p125 : 0 ≤ (a2 : Int) := zD; have q125 : a2 < (l1.length : Int) := zD; obtain ⟨ad125, e125, hx125_0⟩ := Kd.at_int HR1.out a2 p125 q125; cases e125; replace hx125_0 := hL HB hx125_0; replace p125 := eq_true p125; replace q125 := eq_true q125) | ((with_reducible refine gate_dst (N := 8) rfl ?_); refine box_event ?hg (N := 8) ?hd (cs := #[.int .i64 0, .slice none 0 0]) (t := 58) ?hr ?_; (case hd => rfl); (case hg => rfl); (case hr => first | (go_simp; done) | (go_simp; rfl)); intro gb126 hg w46 hbox hb; have BK126 := Aside0.mk (hbox); have GW126 := gS HB hg; have GE126 := gS HB hg; replace HB := bS HB hb; have NB123_126 := nL BK123 hg; have NB126_123 := nR BK123 hg; replace BK123 := kB BK123 hb; have NB124_126 := nL BK124 hg; have NB126_124 := nR BK124 hg; replace BK124 := kB BK124 hb; clear hb hbox hg; have hnb47 := NB126_123.out; have hnc47 := NB123_126.out; have hnb48 := NB126_124.out; have hnc48 := NB124_126.out; have hcz49_0 := bc0 BK126; have hcz49_1 := bc1 BK126; have hfz49_0 := bf BK126 0; have hfz49_1 := bf BK126 1; have hnb50 := NB123_124.out; have hnc50 := NB124_123.out; have hcz51_0 := bc0 BK123; have hcz51_1 := bc1 BK123; have hcz51_2 := bc2 BK123; have hcz51_3 := bc3 BK123; have hfz51_0 := bf BK123 0; have hfz51_1 := bf BK123 1; have hfz51_2 := bf BK123 2; have hfz51_3 := bf BK123 3; have p128 : 0 ≤ (a2 : Int) := zD; have q128 : a2 < (l1.length : Int) := zD; obtain ⟨ad128, e128, hx128_0⟩ := Kd.at_int HR1.out a2 p128 q128; obtain rfl : ad125 = ad128 := (by injection e128); have hn128_0 : ad125.block ≠ gb126 := Nat.ne_of_lt (Nat.lt_of_lt_of_le (by have := World.block_lt_of_cell? _ _ hx128_0; first | rwa [add_block] at this | exact this) GW126.out); have hn128_1 : ad125.block ≠ gb126 := Nat.ne_of_lt (Nat.lt_of_lt_of_le (by have := World.block_lt_of_cell? _ _ hx128_0; first | rwa [add_block] at this | exact this) GW126.out); replace hx128_0 := hL HB hx128_0; replace hx128_0 := (cell_far (p := ⟨gb126, 0, none⟩) (by first | (rw [add_block]; exact hn128_0) | (show (Addr.add _ _).block ≠ _; rw [add_block]; exact hn128_0) | exact hn128_0) (.int .i64 (rd l1 a2))).trans hx128_0; replace hx128_0 := (cell_far (p := ⟨gb126, 1, none⟩) (by first | (rw [add_block]; exact hn128_1) | (show (Addr.add _ _).block ≠ _; rw [add_block]; exact hn128_1) | exact hn128_1) (.slice none 0 0)).trans hx128_0; clear hn128_0; clear hn128_1; replace p128 := eq_true p128; replace q128 := eq_true q128) | ((with_reducible refine gate_callee (f := 49) rfl ?_); refine goesL_ (some 34) rfl rfl Try.func49 (by kernel_rfl) rfl #[.int .i64 (rd l1 a2), .int .i64 0, .int .i64 (wrap64 ((wrap64 ((l1.length : Int) - a2)) - 1))] rfl zG ?_; (with_reducible refine (spec_l1In.calls (rd l1 a2) 0 (wrap64 ((wrap64 ((l1.length : Int) - a2)) - 1)) true _ A35.out).mono ?_); rintro e w' ⟨rfl, ⟨nd, rfl⟩⟩; refine ⟨_, rfl, ?_⟩; have p130 : 0 ≤ (a2 : Int) := zD; have q130 : a2 < (l1.length : Int) := zD; obtain ⟨ad130, e130, hx130_0⟩ := Kd.at_int HR1.out a2 p130 q130; obtain rfl : ad125 = ad130 := (by injection e130); have hn130_0 : ad125.block ≠ gb126 := Nat.ne_of_lt (Nat.lt_of_lt_of_le (by have := World.block_lt_of_cell? _ _ hx130_0; first | rwa [add_block] at this | exact this) GW126.out); have hn130_1 : ad125.block ≠ gb126 := Nat.ne_of_lt (Nat.lt_of_lt_of_le (by have := World.block_lt_of_cell? _ _ hx130_0; first | rwa [add_block] at this | exact this) GW126.out); replace hx130_0 := hL HB hx130_0; replace hx130_0 := (cell_far (p := ⟨gb126, 0, none⟩) (by first | (rw [add_block]; exact hn130_0) | (show (Addr.add _ _).block ≠ _; rw [add_block]; exact hn130_0) | exact hn130_0) (.int .i64 (rd l1 a2))).trans hx130_0; replace hx130_0 := (cell_far (p := ⟨gb126, 1, none⟩) (by first | (rw [add_block]; exact hn130_1) | (show (Addr.add _ _).block ≠ _; rw [add_block]; exact hn130_1) | exact hn130_1) (.slice none 0 0)).trans hx130_0; clear hn130_0; clear hn130_1; replace p130 := eq_true p130; replace q130 := eq_true q130) | ((with_reducible refine gate_dst (N := 44) rfl ?_); refine Kd.R_lit (Kd.int .i64) _ 3 ?hg (N := 44) ?hd (xs := ([] : List Int)) (inner := []) (ok := fun _ => True) (okp := fun _ => True) ?hr ?hp (fun _ hk => hk) trivial (Below.refl _ _) (Nat.le_refl _) (by simp) ?_; (case hd => rfl); (case hg => rfl); (case hr => first | (go_simp; done) | (go_simp; rfl)); (case hp => exact (Reps.none _ _)); intro v132 w52 ho53 hb hg_ hnew_; clear hg_ hnew_; (first | rw [← Ny131.out] at ho53 | (simp only [Int.reduceToNat] at ho53; rw [← Ny131.out] at ho53)); have HO133 := Aside0.mk (Kd.R_lower ho53 (below_size (zB HB))); replace BK123 := Aside0.mk (blk_below (g := gb123) (o := .cells #[.int .i64 a0_0, .int .i64 a0_1, .int .i64 a0_2, .int .i64 a0_3] 47 (0, 0)) (by (with_reducible repeat (first | refine blk_drewN ?_ _ | refine blk_drew ?_ | refine blk_alloc ?_ _)); refine blk_far ?_ NB123_126.out _; (with_reducible repeat (first | refine blk_drewN ?_ _ | refine blk_drew ?_ | refine blk_alloc ?_ _)); refine blk_far ?_ NB123_126.out _; (with_reducible repeat (first | refine blk_drewN ?_ _ | refine blk_drew ?_ | refine blk_alloc ?_ _)); exact BK123.out) hb); replace BK124 := Aside0.mk (blk_below (g := gb124) (o := .cells #[.int .i64 0, .slice none 0 0] 58 (0, 0)) (by (with_reducible repeat (first | refine blk_drewN ?_ _ | refine blk_drew ?_ | refine blk_alloc ?_ _)); refine blk_far ?_ NB124_126.out _; (with_reducible repeat (first | refine blk_drewN ?_ _ | refine blk_drew ?_ | refine blk_alloc ?_ _)); refine blk_far ?_ NB124_126.out _; (with_reducible repeat (first | refine blk_drewN ?_ _ | refine blk_drew ?_ | refine blk_alloc ?_ _)); exact BK124.out) hb); replace BK126 := Aside0.mk (blk_below (g := gb126) (o := .cells #[.int .i64 (rd l1 a2), .slice none 0 0] 58 (0, 0)) (by (with_reducible repeat (first | refine blk_drewN ?_ _ | refine blk_drew ?_ | refine blk_alloc ?_ _)); refine blk_put (cs := #[.int .i64 (rd l1 a2), .slice none 0 0]) ?_ 1 _ rfl; (with_reducible repeat (first | refine blk_drewN ?_ _ | refine blk_drew ?_ | refine blk_alloc ?_ _)); refine blk_put (cs := #[.int .i64 0, .slice none 0 0]) ?_ 0 _ rfl; (with_reducible repeat (first | refine blk_drewN ?_ _ | refine blk_drew ?_ | refine blk_alloc ?_ _)); exact BK126.out) hb); replace HB := bS HB hb; clear hb ho53; obtain ⟨i054, hi054, _, hsz54, _⟩ := info_parts info3; obtain ⟨A54, hcut54, hA54, hC54⟩ := print_mid_of (P := Try.prog) (Value.int .i64) 0 37 3 .i64 .i64 Try.underlying37 hi054 hsz54 (some ad125) c1 l1 (ji37) (wrap64 ((ji37) + (rd l1 a2))) (zD) (by first | omega | exact zD) (zD) HC1.out; have HR134 := Aside0.mk (Kd.C_of_reads (h1 := fun _ => rfl) (hA54 _ (Kd.reads_of_C HR1.out))); have HC134 := Aside0.mk hC54; clear hA54 hC54 hi054 hsz54) | ((with_reducible refine gate_builtin (b := .append) (xs := #[.tmp 44, .tmp 49]) rfl ?_); at_builtin; refine Kd.R_append_rows (Kd.int .i64) (w0 := w) w.heap.size rfl (.tmp 44) (.tmp 49) 37 3 (.int .i64 0) 8 rfl Try.underlying37 info3 rfl (by decide) (by omega) v132 y131 ((l1.take ((wrap64 ((ji37) + (rd l1 a2))) : Int).toNat).drop ((ji37) : Int).toNat) _ _ _ (fun _ => True) (fun _ => False) rfl rfl ?aO ?aR (fun _ _ h => h) (fun _ h => h.elim) ?aF ?aB ?aS ?aL ?_; (case aR => first | (have q_ := HR134.out; rw [show ((l1.take ((wrap64 ((ji37) + (rd l1 a2))) : Int).toNat).drop ((ji37) : Int).toNat).length = ((wrap64 ((ji37) + (rd l1 a2))).toNat - (ji37).toNat) from (by rw [List.length_drop, List.length_take]; have h_ : ((wrap64 ((ji37) + (rd l1 a2))) : Int) ≤ (l1.length : Int) := zD; omega)] at q_; repeat (first | exact (Kd.C_below q_ HB.out) | (with_reducible refine Kd.C_alloc ?_ _) | (with_reducible refine Kd.C_drewN ?_ _) | (with_reducible refine Kd.C_drew ?_)); done) | (rw [← show ((l1.take ((wrap64 ((ji37) + (rd l1 a2))) : Int).toNat).drop ((ji37) : Int).toNat).length = ((wrap64 ((ji37) + (rd l1 a2))).toNat - (ji37).toNat) from (by rw [List.length_drop, List.length_take]; have h_ : ((wrap64 ((ji37) + (rd l1 a2))) : Int) ≤ (l1.length : Int) := zD; omega)]; repeat (first | exact (Kd.C_below HR134.out HB.out) | (with_reducible refine Kd.C_alloc ?_ _) | (with_reducible refine Kd.C_drewN ?_ _) | (with_reducible refine Kd.C_drew ?_)); done) | (repeat (first | exact (Kd.C_below HR134.out HB.out) | (with_reducible refine Kd.C_alloc ?_ _) | (with_reducible refine Kd.C_drewN ?_ _) | (with_reducible refine Kd.C_drew ?_)))); (case aB => exact (zB HB)); (case aF => exact (fun _ _ => trivial)); (case aO => exact (zR HO133)); (case aS => exact (below_size (zB HB))); (case aL => have := LMc41.out; have hlx_ := (show ((l1.take ((wrap64 ((ji37) + (rd l1 a2))) : Int).toNat).drop ((ji37) : Int).toNat).length = ((wrap64 ((ji37) + (rd l1 a2))).toNat - (ji37).toNat) from (by rw [List.length_drop, List.length_take]; have h_ : ((wrap64 ((ji37) + (rd l1 a2))) : Int) ≤ (l1.length : Int) := zD; omega)); omega); intro v136 w55 ho hb hg hat; rw [← Ny135.out] at ho; replace BK123 := Aside0.mk (blk_grown (g := gb123) (o := .cells #[.int .i64 a0_0, .int .i64 a0_1, .int .i64 a0_2, .int .i64 a0_3] 47 (0, 0)) (zK BK123) hg (Kd.R_ne HO133.out BK123.out (by decide))); replace BK124 := Aside0.mk (blk_grown (g := gb124) (o := .cells #[.int .i64 0, .slice none 0 0] 58 (0, 0)) (zK BK124) hg (Kd.R_ne HO133.out BK124.out (by decide))); replace BK126 := Aside0.mk (blk_grown (g := gb126) (o := .cells #[.int .i64 (rd l1 a2), .slice none 0 0] 58 (0, 0)) (zK BK126) hg (Kd.R_ne HO133.out BK126.out (by decide))); replace HB := Aside0.mk (hb); have HO137 := Aside0.mk (ho); clear HO133; clear ho hb hg hat; obtain ⟨Ao56, co56, eo56⟩ := Kd.R_slice HO137.out; subst eo56; have hcz57_0 := bc0 BK126; have hcz57_1 := bc1 BK126; have hfz57_0 := bf BK126 0; have hfz57_1 := bf BK126 1; have hcz58_0 := bc0 BK123; have hcz58_1 := bc1 BK123; have hcz58_2 := bc2 BK123; have hcz58_3 := bc3 BK123; have hfz58_0 := bf BK123 0; have hfz58_1 := bf BK123 1; have hfz58_2 := bf BK123 2; have hfz58_3 := bf BK123 3) | ((with_reducible refine gate_callee (f := 58) rfl ?_); refine goesL_ (some 54) rfl rfl Try.func58 (by kernel_rfl) rfl #[.agg #[.int .i64 a0_0, .int .i64 a0_1, .int .i64 a0_2, .int .i64 a0_3], .agg #[.int .i64 0, .slice Ao56 y135.length co56]] rfl zG ?_; (with_reducible refine (spec_FitsField.calls k a0_0 a0_1 a0_2 a0_3 0 _ _ y135 true _ ?side1 ?side2 A42.out).mono ?_); (case side1 => refine (Kd.R_reads' (e := 3) (base := w.heap.size) (ok := fun k_ => True) (n := y135.length) (c := co56) ?_).2.2; exact (by (with_reducible repeat (first | apply Kd.R_alloc | apply Kd.R_drewN | apply Kd.R_drew)); exact (Kd.R_mono (Kd.R_far (p := ⟨gb126, 1, none⟩) (Kd.R_far (p := ⟨gb126, 0, none⟩) (Kd.R_types HO137.out BK126.out (by decide)) (fun _ hk => hk.2) (.int .i64 0)) (fun _ hk => hk.2) (.slice Ao56 y135.length co56)) (fun _ h_ => h_.1)))); (case side2 => exact (Kd.R_reads' HO137.out).2.1); rintro e w59 ⟨rfl, hb⟩; refine ⟨_, rfl, ?_⟩; replace HO137 := Aside0.mk (Kd.R_below (by (with_reducible repeat (first | apply Kd.R_alloc | apply Kd.R_drewN | apply Kd.R_drew)); exact (Kd.R_mono (Kd.R_far (p := ⟨gb126, 1, none⟩) (Kd.R_far (p := ⟨gb126, 0, none⟩) (Kd.R_types HO137.out BK126.out (by decide)) (fun _ hk => hk.2) (.int .i64 0)) (fun _ hk => hk.2) (.slice Ao56 y135.length co56)) (fun _ h_ => h_.1))) hb); replace BK123 := Aside0.mk (blk_below (g := gb123) (o := .cells #[.int .i64 a0_0, .int .i64 a0_1, .int .i64 a0_2, .int .i64 a0_3] 47 (0, 0)) (by (with_reducible repeat (first | refine blk_drewN ?_ _ | refine blk_drew ?_ | refine blk_alloc ?_ _)); refine blk_far ?_ NB123_126.out _; (with_reducible repeat (first | refine blk_drewN ?_ _ | refine blk_drew ?_ | refine blk_alloc ?_ _)); refine blk_far ?_ NB123_126.out _; (with_reducible repeat (first | refine blk_drewN ?_ _ | refine blk_drew ?_ | refine blk_alloc ?_ _)); exact BK123.out) hb); replace BK124 := Aside0.mk (blk_below (g := gb124) (o := .cells #[.int .i64 0, .slice none 0 0] 58 (0, 0)) (by (with_reducible repeat (first | refine blk_drewN ?_ _ | refine blk_drew ?_ | refine blk_alloc ?_ _)); refine blk_far ?_ NB124_126.out _; (with_reducible repeat (first | refine blk_drewN ?_ _ | refine blk_drew ?_ | refine blk_alloc ?_ _)); refine blk_far ?_ NB124_126.out _; (with_reducible repeat (first | refine blk_drewN ?_ _ | refine blk_drew ?_ | refine blk_alloc ?_ _)); exact BK124.out) hb); replace BK126 := Aside0.mk (blk_below (g := gb126) (o := .cells #[.int .i64 0, .slice Ao56 y135.length co56] 58 (0, 0)) (by (with_reducible repeat (first | refine blk_drewN ?_ _ | refine blk_drew ?_ | refine blk_alloc ?_ _)); refine blk_put (cs := #[.int .i64 0, .slice none 0 0]) ?_ 1 _ rfl; (with_reducible repeat (first | refine blk_drewN ?_ _ | refine blk_drew ?_ | refine blk_alloc ?_ _)); refine blk_put (cs := #[.int .i64 (rd l1 a2), .slice none 0 0]) ?_ 0 _ rfl; (with_reducible repeat (first | refine blk_drewN ?_ _ | refine blk_drew ?_ | refine blk_alloc ?_ _)); exact BK126.out) hb); replace HB := bS HB hb; (try clear hb); have hcz60_0 := bc0 BK126; have hcz60_1 := bc1 BK126; have hfz60_0 := bf BK126 0; have hfz60_1 := bf BK126 1; have hcz61_0 := bc0 BK124; have hcz61_1 := bc1 BK124; have hfz61_0 := bf BK124 0; have hfz61_1 := bf BK124 1))
      refine bodyPost_ret (results_ct rfl _ _ gb124 58 #[.int .i64 0, .slice Ao56 y135.length co56] (0, 0) _ rfl (by (with_reducible repeat (first | refine blk_drewN ?_ _ | refine blk_drew ?_ | refine blk_alloc ?_ _)); refine blk_put (cs := #[.int .i64 0, .slice none 0 0]) ?_ 1 _ rfl; (with_reducible repeat (first | refine blk_drewN ?_ _ | refine blk_drew ?_ | refine blk_alloc ?_ _)); refine blk_put (cs := #[.int .i64 0, .slice none 0 0]) ?_ 0 _ rfl; (with_reducible repeat (first | refine blk_drewN ?_ _ | refine blk_drew ?_ | refine blk_alloc ?_ _)); exact BK124.out) Try.underlying58 rfl (by kernel_rfl)) rfl ?_
      exact ⟨_, by first | rfl | (simp [errW_none, errW_some] <;> rfl) | (simp only [← hji37]; first | rfl | (simp [errW_none, errW_some] <;> rfl)) | (simp [*, errW_none, errW_some] <;> rfl), by (with_reducible repeat (first | apply Kd.R_alloc | apply Kd.R_drewN | apply Kd.R_drew)); exact Kd.R_mono (Kd.R_far (p := ⟨gb124, 1, none⟩) (Kd.R_far (p := ⟨gb124, 0, none⟩) (Kd.R_types HO137.out BK124.out (by decide)) (fun _ hk => hk.2) (.int .i64 0)) (fun _ hk => hk.2) (.slice Ao56 y135.length co56)) (fun _ hk => trivial), zB HB⟩
     ·replace c43 := Bool.eq_false_iff.mpr c43
      subst c43
      have H1 : (some (0, ([] : List Int), (-1))) = some (r1, r2, r3) := by rw [if_neg (show ¬ (false = true) by decide)] at H; exact H
      clear H
      have H := H1
      clear H1
      simp only [Option.some.injEq, Prod.mk.injEq] at H
      obtain ⟨rfl, rfl, rfl⟩ := H
      go_enter Try.func44, Try.ntmps44
      go_wp2_with (first | ((with_reducible refine gate_dst (N := 3) rfl ?_); refine box_event ?hg (N := 3) ?hd (cs := #[.int .i64 a0_0, .int .i64 a0_1, .int .i64 a0_2, .int .i64 a0_3]) (t := 47) ?hr ?_; (case hd => rfl); (case hg => rfl); (case hr => first | (go_simp; done) | (go_simp; rfl)); intro gb123 hg w62 hbox hb; have BK123 := Aside0.mk (hbox); have GW123 := gS HB hg; have GE123 := gS HB hg; replace HB := bS HB hb; clear hb hbox hg) | ((with_reducible refine gate_dst (N := 6) rfl ?_); refine box_event ?hg (N := 6) ?hd (cs := #[.int .i64 0, .slice none 0 0]) (t := 58) ?hr ?_; (case hd => rfl); (case hg => rfl); (case hr => first | (go_simp; done) | (go_simp; rfl)); intro gb124 hg w63 hbox hb; have BK124 := Aside0.mk (hbox); have GW124 := gS HB hg; have GE124 := gS HB hg; replace HB := bS HB hb; have NB123_124 := nL BK123 hg; have NB124_123 := nR BK123 hg; replace BK123 := kB BK123 hb; clear hb hbox hg; have p125 : 0 ≤ (a2 : Int) := zD; have q125 : a2 < (l1.length : Int) := zD; obtain ⟨ad125, e125, hx125_0⟩ := Kd.at_int HR1.out a2 p125 q125; cases e125; replace hx125_0 := hL HB hx125_0; replace p125 := eq_true p125; replace q125 := eq_true q125) | ((with_reducible refine gate_dst (N := 8) rfl ?_); refine box_event ?hg (N := 8) ?hd (cs := #[.int .i64 0, .slice none 0 0]) (t := 58) ?hr ?_; (case hd => rfl); (case hg => rfl); (case hr => first | (go_simp; done) | (go_simp; rfl)); intro gb126 hg w64 hbox hb; have BK126 := Aside0.mk (hbox); have GW126 := gS HB hg; have GE126 := gS HB hg; replace HB := bS HB hb; have NB123_126 := nL BK123 hg; have NB126_123 := nR BK123 hg; replace BK123 := kB BK123 hb; have NB124_126 := nL BK124 hg; have NB126_124 := nR BK124 hg; replace BK124 := kB BK124 hb; clear hb hbox hg; have hnb65 := NB126_123.out; have hnc65 := NB123_126.out; have hnb66 := NB126_124.out; have hnc66 := NB124_126.out; have hcz67_0 := bc0 BK126; have hcz67_1 := bc1 BK126; have hfz67_0 := bf BK126 0; have hfz67_1 := bf BK126 1; have hnb68 := NB123_124.out; have hnc68 := NB124_123.out; have hcz69_0 := bc0 BK123; have hcz69_1 := bc1 BK123; have hcz69_2 := bc2 BK123; have hcz69_3 := bc3 BK123; have hfz69_0 := bf BK123 0; have hfz69_1 := bf BK123 1; have hfz69_2 := bf BK123 2; have hfz69_3 := bf BK123 3; have p128 : 0 ≤ (a2 : Int) := zD; have q128 : a2 < (l1.length : Int) := zD; obtain ⟨ad128, e128, hx128_0⟩ := Kd.at_int HR1.out a2 p128 q128; obtain rfl : ad125 = ad128 := (by injection e128); have hn128_0 : ad125.block ≠ gb126 := Nat.ne_of_lt (Nat.lt_of_lt_of_le (by have := World.block_lt_of_cell? _ _ hx128_0; first | rwa [add_block] at this | exact this) GW126.out); have hn128_1 : ad125.block ≠ gb126 := Nat.ne_of_lt (Nat.lt_of_lt_of_le (by have := World.block_lt_of_cell? _ _ hx128_0; first | rwa [add_block] at this | exact this) GW126.out); replace hx128_0 := hL HB hx128_0; replace hx128_0 := (cell_far (p := ⟨gb126, 0, none⟩) (by first | (rw [add_block]; exact hn128_0) | (show (Addr.add _ _).block ≠ _; rw [add_block]; exact hn128_0) | exact hn128_0) (.int .i64 (rd l1 a2))).trans hx128_0; replace hx128_0 := (cell_far (p := ⟨gb126, 1, none⟩) (by first | (rw [add_block]; exact hn128_1) | (show (Addr.add _ _).block ≠ _; rw [add_block]; exact hn128_1) | exact hn128_1) (.slice none 0 0)).trans hx128_0; clear hn128_0; clear hn128_1; replace p128 := eq_true p128; replace q128 := eq_true q128) | ((with_reducible refine gate_callee (f := 49) rfl ?_); refine goesL_ (some 34) rfl rfl Try.func49 (by kernel_rfl) rfl #[.int .i64 (rd l1 a2), .int .i64 0, .int .i64 (wrap64 ((wrap64 ((l1.length : Int) - a2)) - 1))] rfl zG ?_; (with_reducible refine (spec_l1In.calls (rd l1 a2) 0 (wrap64 ((wrap64 ((l1.length : Int) - a2)) - 1)) true _ A35.out).mono ?_); rintro e w' ⟨rfl, ⟨nd, rfl⟩⟩; refine ⟨_, rfl, ?_⟩; have p130 : 0 ≤ (a2 : Int) := zD; have q130 : a2 < (l1.length : Int) := zD; obtain ⟨ad130, e130, hx130_0⟩ := Kd.at_int HR1.out a2 p130 q130; obtain rfl : ad125 = ad130 := (by injection e130); have hn130_0 : ad125.block ≠ gb126 := Nat.ne_of_lt (Nat.lt_of_lt_of_le (by have := World.block_lt_of_cell? _ _ hx130_0; first | rwa [add_block] at this | exact this) GW126.out); have hn130_1 : ad125.block ≠ gb126 := Nat.ne_of_lt (Nat.lt_of_lt_of_le (by have := World.block_lt_of_cell? _ _ hx130_0; first | rwa [add_block] at this | exact this) GW126.out); replace hx130_0 := hL HB hx130_0; replace hx130_0 := (cell_far (p := ⟨gb126, 0, none⟩) (by first | (rw [add_block]; exact hn130_0) | (show (Addr.add _ _).block ≠ _; rw [add_block]; exact hn130_0) | exact hn130_0) (.int .i64 (rd l1 a2))).trans hx130_0; replace hx130_0 := (cell_far (p := ⟨gb126, 1, none⟩) (by first | (rw [add_block]; exact hn130_1) | (show (Addr.add _ _).block ≠ _; rw [add_block]; exact hn130_1) | exact hn130_1) (.slice none 0 0)).trans hx130_0; clear hn130_0; clear hn130_1; replace p130 := eq_true p130; replace q130 := eq_true q130) | ((with_reducible refine gate_dst (N := 44) rfl ?_); refine Kd.R_lit (Kd.int .i64) _ 3 ?hg (N := 44) ?hd (xs := ([] : List Int)) (inner := []) (ok := fun _ => True) (okp := fun _ => True) ?hr ?hp (fun _ hk => hk) trivial (Below.refl _ _) (Nat.le_refl _) (by simp) ?_; (case hd => rfl); (case hg => rfl); (case hr => first | (go_simp; done) | (go_simp; rfl)); (case hp => exact (Reps.none _ _)); intro v132 w70 ho71 hb hg_ hnew_; clear hg_ hnew_; (first | rw [← Ny131.out] at ho71 | (simp only [Int.reduceToNat] at ho71; rw [← Ny131.out] at ho71)); have HO133 := Aside0.mk (Kd.R_lower ho71 (below_size (zB HB))); replace BK123 := Aside0.mk (blk_below (g := gb123) (o := .cells #[.int .i64 a0_0, .int .i64 a0_1, .int .i64 a0_2, .int .i64 a0_3] 47 (0, 0)) (by (with_reducible repeat (first | refine blk_drewN ?_ _ | refine blk_drew ?_ | refine blk_alloc ?_ _)); refine blk_far ?_ NB123_126.out _; (with_reducible repeat (first | refine blk_drewN ?_ _ | refine blk_drew ?_ | refine blk_alloc ?_ _)); refine blk_far ?_ NB123_126.out _; (with_reducible repeat (first | refine blk_drewN ?_ _ | refine blk_drew ?_ | refine blk_alloc ?_ _)); exact BK123.out) hb); replace BK124 := Aside0.mk (blk_below (g := gb124) (o := .cells #[.int .i64 0, .slice none 0 0] 58 (0, 0)) (by (with_reducible repeat (first | refine blk_drewN ?_ _ | refine blk_drew ?_ | refine blk_alloc ?_ _)); refine blk_far ?_ NB124_126.out _; (with_reducible repeat (first | refine blk_drewN ?_ _ | refine blk_drew ?_ | refine blk_alloc ?_ _)); refine blk_far ?_ NB124_126.out _; (with_reducible repeat (first | refine blk_drewN ?_ _ | refine blk_drew ?_ | refine blk_alloc ?_ _)); exact BK124.out) hb); replace BK126 := Aside0.mk (blk_below (g := gb126) (o := .cells #[.int .i64 (rd l1 a2), .slice none 0 0] 58 (0, 0)) (by (with_reducible repeat (first | refine blk_drewN ?_ _ | refine blk_drew ?_ | refine blk_alloc ?_ _)); refine blk_put (cs := #[.int .i64 (rd l1 a2), .slice none 0 0]) ?_ 1 _ rfl; (with_reducible repeat (first | refine blk_drewN ?_ _ | refine blk_drew ?_ | refine blk_alloc ?_ _)); refine blk_put (cs := #[.int .i64 0, .slice none 0 0]) ?_ 0 _ rfl; (with_reducible repeat (first | refine blk_drewN ?_ _ | refine blk_drew ?_ | refine blk_alloc ?_ _)); exact BK126.out) hb); replace HB := bS HB hb; clear hb ho71; obtain ⟨i072, hi072, _, hsz72, _⟩ := info_parts info3; obtain ⟨A72, hcut72, hA72, hC72⟩ := print_mid_of (P := Try.prog) (Value.int .i64) 0 37 3 .i64 .i64 Try.underlying37 hi072 hsz72 (some ad125) c1 l1 (ji37) (wrap64 ((ji37) + (rd l1 a2))) (zD) (by first | omega | exact zD) (zD) HC1.out; have HR134 := Aside0.mk (Kd.C_of_reads (h1 := fun _ => rfl) (hA72 _ (Kd.reads_of_C HR1.out))); have HC134 := Aside0.mk hC72; clear hA72 hC72 hi072 hsz72) | ((with_reducible refine gate_builtin (b := .append) (xs := #[.tmp 44, .tmp 49]) rfl ?_); at_builtin; refine Kd.R_append_rows (Kd.int .i64) (w0 := w) w.heap.size rfl (.tmp 44) (.tmp 49) 37 3 (.int .i64 0) 8 rfl Try.underlying37 info3 rfl (by decide) (by omega) v132 y131 ((l1.take ((wrap64 ((ji37) + (rd l1 a2))) : Int).toNat).drop ((ji37) : Int).toNat) _ _ _ (fun _ => True) (fun _ => False) rfl rfl ?aO ?aR (fun _ _ h => h) (fun _ h => h.elim) ?aF ?aB ?aS ?aL ?_; (case aR => first | (have q_ := HR134.out; rw [show ((l1.take ((wrap64 ((ji37) + (rd l1 a2))) : Int).toNat).drop ((ji37) : Int).toNat).length = ((wrap64 ((ji37) + (rd l1 a2))).toNat - (ji37).toNat) from (by rw [List.length_drop, List.length_take]; have h_ : ((wrap64 ((ji37) + (rd l1 a2))) : Int) ≤ (l1.length : Int) := zD; omega)] at q_; repeat (first | exact (Kd.C_below q_ HB.out) | (with_reducible refine Kd.C_alloc ?_ _) | (with_reducible refine Kd.C_drewN ?_ _) | (with_reducible refine Kd.C_drew ?_)); done) | (rw [← show ((l1.take ((wrap64 ((ji37) + (rd l1 a2))) : Int).toNat).drop ((ji37) : Int).toNat).length = ((wrap64 ((ji37) + (rd l1 a2))).toNat - (ji37).toNat) from (by rw [List.length_drop, List.length_take]; have h_ : ((wrap64 ((ji37) + (rd l1 a2))) : Int) ≤ (l1.length : Int) := zD; omega)]; repeat (first | exact (Kd.C_below HR134.out HB.out) | (with_reducible refine Kd.C_alloc ?_ _) | (with_reducible refine Kd.C_drewN ?_ _) | (with_reducible refine Kd.C_drew ?_)); done) | (repeat (first | exact (Kd.C_below HR134.out HB.out) | (with_reducible refine Kd.C_alloc ?_ _) | (with_reducible refine Kd.C_drewN ?_ _) | (with_reducible refine Kd.C_drew ?_)))); (case aB => exact (zB HB)); (case aF => exact (fun _ _ => trivial)); (case aO => exact (zR HO133)); (case aS => exact (below_size (zB HB))); (case aL => have := LMc41.out; have hlx_ := (show ((l1.take ((wrap64 ((ji37) + (rd l1 a2))) : Int).toNat).drop ((ji37) : Int).toNat).length = ((wrap64 ((ji37) + (rd l1 a2))).toNat - (ji37).toNat) from (by rw [List.length_drop, List.length_take]; have h_ : ((wrap64 ((ji37) + (rd l1 a2))) : Int) ≤ (l1.length : Int) := zD; omega)); omega); intro v136 w73 ho hb hg hat; rw [← Ny135.out] at ho; replace BK123 := Aside0.mk (blk_grown (g := gb123) (o := .cells #[.int .i64 a0_0, .int .i64 a0_1, .int .i64 a0_2, .int .i64 a0_3] 47 (0, 0)) (zK BK123) hg (Kd.R_ne HO133.out BK123.out (by decide))); replace BK124 := Aside0.mk (blk_grown (g := gb124) (o := .cells #[.int .i64 0, .slice none 0 0] 58 (0, 0)) (zK BK124) hg (Kd.R_ne HO133.out BK124.out (by decide))); replace BK126 := Aside0.mk (blk_grown (g := gb126) (o := .cells #[.int .i64 (rd l1 a2), .slice none 0 0] 58 (0, 0)) (zK BK126) hg (Kd.R_ne HO133.out BK126.out (by decide))); replace HB := Aside0.mk (hb); have HO137 := Aside0.mk (ho); clear HO133; clear ho hb hg hat; obtain ⟨Ao74, co74, eo74⟩ := Kd.R_slice HO137.out; subst eo74; have hcz75_0 := bc0 BK126; have hcz75_1 := bc1 BK126; have hfz75_0 := bf BK126 0; have hfz75_1 := bf BK126 1; have hcz76_0 := bc0 BK123; have hcz76_1 := bc1 BK123; have hcz76_2 := bc2 BK123; have hcz76_3 := bc3 BK123; have hfz76_0 := bf BK123 0; have hfz76_1 := bf BK123 1; have hfz76_2 := bf BK123 2; have hfz76_3 := bf BK123 3) | ((with_reducible refine gate_callee (f := 58) rfl ?_); refine goesL_ (some 54) rfl rfl Try.func58 (by kernel_rfl) rfl #[.agg #[.int .i64 a0_0, .int .i64 a0_1, .int .i64 a0_2, .int .i64 a0_3], .agg #[.int .i64 0, .slice Ao74 y135.length co74]] rfl zG ?_; (with_reducible refine (spec_FitsField.calls k a0_0 a0_1 a0_2 a0_3 0 _ _ y135 false _ ?side1 ?side2 A42.out).mono ?_); (case side1 => refine (Kd.R_reads' (e := 3) (base := w.heap.size) (ok := fun k_ => True) (n := y135.length) (c := co74) ?_).2.2; exact (by (with_reducible repeat (first | apply Kd.R_alloc | apply Kd.R_drewN | apply Kd.R_drew)); exact (Kd.R_mono (Kd.R_far (p := ⟨gb126, 1, none⟩) (Kd.R_far (p := ⟨gb126, 0, none⟩) (Kd.R_types HO137.out BK126.out (by decide)) (fun _ hk => hk.2) (.int .i64 0)) (fun _ hk => hk.2) (.slice Ao74 y135.length co74)) (fun _ h_ => h_.1)))); (case side2 => exact (Kd.R_reads' HO137.out).2.1); rintro e w77 ⟨rfl, hb⟩; refine ⟨_, rfl, ?_⟩; replace HO137 := Aside0.mk (Kd.R_below (by (with_reducible repeat (first | apply Kd.R_alloc | apply Kd.R_drewN | apply Kd.R_drew)); exact (Kd.R_mono (Kd.R_far (p := ⟨gb126, 1, none⟩) (Kd.R_far (p := ⟨gb126, 0, none⟩) (Kd.R_types HO137.out BK126.out (by decide)) (fun _ hk => hk.2) (.int .i64 0)) (fun _ hk => hk.2) (.slice Ao74 y135.length co74)) (fun _ h_ => h_.1))) hb); replace BK123 := Aside0.mk (blk_below (g := gb123) (o := .cells #[.int .i64 a0_0, .int .i64 a0_1, .int .i64 a0_2, .int .i64 a0_3] 47 (0, 0)) (by (with_reducible repeat (first | refine blk_drewN ?_ _ | refine blk_drew ?_ | refine blk_alloc ?_ _)); refine blk_far ?_ NB123_126.out _; (with_reducible repeat (first | refine blk_drewN ?_ _ | refine blk_drew ?_ | refine blk_alloc ?_ _)); refine blk_far ?_ NB123_126.out _; (with_reducible repeat (first | refine blk_drewN ?_ _ | refine blk_drew ?_ | refine blk_alloc ?_ _)); exact BK123.out) hb); replace BK124 := Aside0.mk (blk_below (g := gb124) (o := .cells #[.int .i64 0, .slice none 0 0] 58 (0, 0)) (by (with_reducible repeat (first | refine blk_drewN ?_ _ | refine blk_drew ?_ | refine blk_alloc ?_ _)); refine blk_far ?_ NB124_126.out _; (with_reducible repeat (first | refine blk_drewN ?_ _ | refine blk_drew ?_ | refine blk_alloc ?_ _)); refine blk_far ?_ NB124_126.out _; (with_reducible repeat (first | refine blk_drewN ?_ _ | refine blk_drew ?_ | refine blk_alloc ?_ _)); exact BK124.out) hb); replace BK126 := Aside0.mk (blk_below (g := gb126) (o := .cells #[.int .i64 0, .slice Ao74 y135.length co74] 58 (0, 0)) (by (with_reducible repeat (first | refine blk_drewN ?_ _ | refine blk_drew ?_ | refine blk_alloc ?_ _)); refine blk_put (cs := #[.int .i64 0, .slice none 0 0]) ?_ 1 _ rfl; (with_reducible repeat (first | refine blk_drewN ?_ _ | refine blk_drew ?_ | refine blk_alloc ?_ _)); refine blk_put (cs := #[.int .i64 (rd l1 a2), .slice none 0 0]) ?_ 0 _ rfl; (with_reducible repeat (first | refine blk_drewN ?_ _ | refine blk_drew ?_ | refine blk_alloc ?_ _)); exact BK126.out) hb); replace HB := bS HB hb; (try clear hb); have hcz78_0 := bc0 BK124; have hcz78_1 := bc1 BK124; have hfz78_0 := bf BK124 0; have hfz78_1 := bf BK124 1))
      refine bodyPost_ret (results_ct rfl _ _ gb124 58 #[.int .i64 0, .slice none 0 0] (0, 0) _ rfl (by (with_reducible repeat (first | refine blk_drewN ?_ _ | refine blk_drew ?_ | refine blk_alloc ?_ _)); refine blk_put (cs := #[.int .i64 0, .slice none 0 0]) ?_ 1 _ rfl; (with_reducible repeat (first | refine blk_drewN ?_ _ | refine blk_drew ?_ | refine blk_alloc ?_ _)); refine blk_put (cs := #[.int .i64 0, .slice none 0 0]) ?_ 0 _ rfl; (with_reducible repeat (first | refine blk_drewN ?_ _ | refine blk_drew ?_ | refine blk_alloc ?_ _)); exact BK124.out) Try.underlying58 rfl (by kernel_rfl)) rfl ?_
      exact ⟨_, by first | rfl | (simp [errW_none, errW_some] <;> rfl) | (simp only [← hji37]; first | rfl | (simp [errW_none, errW_some] <;> rfl)) | (simp [*, errW_none, errW_some] <;> rfl), by first | exact Kd.R_nil _ _ _ _ _ | exact Kd.N_nil _ _ _ _ _ | exact Kd.V_nil _ _ _ _ _ | exact Kd.Q_nil _ _ _ _ _ | exact Kd.S_nil _ _ _ _ _, zB HB⟩
    ·replace c36 := Bool.eq_false_iff.mpr c36
     subst c36
     have H1 : (some (0, ([] : List Int), (-1))) = some (r1, r2, r3) := by rw [if_neg (show ¬ (false = true) by decide)] at H; exact H
     clear H
     have H := H1
     clear H1
     simp only [Option.some.injEq, Prod.mk.injEq] at H
     obtain ⟨rfl, rfl, rfl⟩ := H
     go_enter Try.func44, Try.ntmps44
     go_wp2_with (first | ((with_reducible refine gate_dst (N := 3) rfl ?_); refine box_event ?hg (N := 3) ?hd (cs := #[.int .i64 a0_0, .int .i64 a0_1, .int .i64 a0_2, .int .i64 a0_3]) (t := 47) ?hr ?_; (case hd => rfl); (case hg => rfl); (case hr => first | (go_simp; done) | (go_simp; rfl)); intro gb123 hg w79 hbox hb; have BK123 := Aside0.mk (hbox); have GW123 := gS HB hg; have GE123 := gS HB hg; replace HB := bS HB hb; clear hb hbox hg) | ((with_reducible refine gate_dst (N := 6) rfl ?_); refine box_event ?hg (N := 6) ?hd (cs := #[.int .i64 0, .slice none 0 0]) (t := 58) ?hr ?_; (case hd => rfl); (case hg => rfl); (case hr => first | (go_simp; done) | (go_simp; rfl)); intro gb124 hg w80 hbox hb; have BK124 := Aside0.mk (hbox); have GW124 := gS HB hg; have GE124 := gS HB hg; replace HB := bS HB hb; have NB123_124 := nL BK123 hg; have NB124_123 := nR BK123 hg; replace BK123 := kB BK123 hb; clear hb hbox hg; have p125 : 0 ≤ (a2 : Int) := zD; have q125 : a2 < (l1.length : Int) := zD; obtain ⟨ad125, e125, hx125_0⟩ := Kd.at_int HR1.out a2 p125 q125; cases e125; replace hx125_0 := hL HB hx125_0; replace p125 := eq_true p125; replace q125 := eq_true q125) | ((with_reducible refine gate_dst (N := 8) rfl ?_); refine box_event ?hg (N := 8) ?hd (cs := #[.int .i64 0, .slice none 0 0]) (t := 58) ?hr ?_; (case hd => rfl); (case hg => rfl); (case hr => first | (go_simp; done) | (go_simp; rfl)); intro gb126 hg w81 hbox hb; have BK126 := Aside0.mk (hbox); have GW126 := gS HB hg; have GE126 := gS HB hg; replace HB := bS HB hb; have NB123_126 := nL BK123 hg; have NB126_123 := nR BK123 hg; replace BK123 := kB BK123 hb; have NB124_126 := nL BK124 hg; have NB126_124 := nR BK124 hg; replace BK124 := kB BK124 hb; clear hb hbox hg; have hnb82 := NB126_123.out; have hnc82 := NB123_126.out; have hnb83 := NB126_124.out; have hnc83 := NB124_126.out; have hcz84_0 := bc0 BK126; have hcz84_1 := bc1 BK126; have hfz84_0 := bf BK126 0; have hfz84_1 := bf BK126 1; have hnb85 := NB123_124.out; have hnc85 := NB124_123.out; have hcz86_0 := bc0 BK123; have hcz86_1 := bc1 BK123; have hcz86_2 := bc2 BK123; have hcz86_3 := bc3 BK123; have hfz86_0 := bf BK123 0; have hfz86_1 := bf BK123 1; have hfz86_2 := bf BK123 2; have hfz86_3 := bf BK123 3; have p128 : 0 ≤ (a2 : Int) := zD; have q128 : a2 < (l1.length : Int) := zD; obtain ⟨ad128, e128, hx128_0⟩ := Kd.at_int HR1.out a2 p128 q128; obtain rfl : ad125 = ad128 := (by injection e128); have hn128_0 : ad125.block ≠ gb126 := Nat.ne_of_lt (Nat.lt_of_lt_of_le (by have := World.block_lt_of_cell? _ _ hx128_0; first | rwa [add_block] at this | exact this) GW126.out); have hn128_1 : ad125.block ≠ gb126 := Nat.ne_of_lt (Nat.lt_of_lt_of_le (by have := World.block_lt_of_cell? _ _ hx128_0; first | rwa [add_block] at this | exact this) GW126.out); replace hx128_0 := hL HB hx128_0; replace hx128_0 := (cell_far (p := ⟨gb126, 0, none⟩) (by first | (rw [add_block]; exact hn128_0) | (show (Addr.add _ _).block ≠ _; rw [add_block]; exact hn128_0) | exact hn128_0) (.int .i64 (rd l1 a2))).trans hx128_0; replace hx128_0 := (cell_far (p := ⟨gb126, 1, none⟩) (by first | (rw [add_block]; exact hn128_1) | (show (Addr.add _ _).block ≠ _; rw [add_block]; exact hn128_1) | exact hn128_1) (.slice none 0 0)).trans hx128_0; clear hn128_0; clear hn128_1; replace p128 := eq_true p128; replace q128 := eq_true q128) | ((with_reducible refine gate_callee (f := 49) rfl ?_); refine goesL_ (some 34) rfl rfl Try.func49 (by kernel_rfl) rfl #[.int .i64 (rd l1 a2), .int .i64 0, .int .i64 (wrap64 ((wrap64 ((l1.length : Int) - a2)) - 1))] rfl zG ?_; (with_reducible refine (spec_l1In.calls (rd l1 a2) 0 (wrap64 ((wrap64 ((l1.length : Int) - a2)) - 1)) false _ A35.out).mono ?_); rintro e w' ⟨rfl, ⟨nd, rfl⟩⟩; refine ⟨_, rfl, ?_⟩; have hcz87_0 := bc0 BK124; have hcz87_1 := bc1 BK124; have hfz87_0 := bf BK124 0; have hfz87_1 := bf BK124 1))
     refine bodyPost_ret (results_ct rfl _ _ gb124 58 #[.int .i64 0, .slice none 0 0] (0, 0) _ rfl (by (with_reducible repeat (first | refine blk_drewN ?_ _ | refine blk_drew ?_ | refine blk_alloc ?_ _)); refine blk_put (cs := #[.int .i64 0, .slice none 0 0]) ?_ 1 _ rfl; (with_reducible repeat (first | refine blk_drewN ?_ _ | refine blk_drew ?_ | refine blk_alloc ?_ _)); refine blk_put (cs := #[.int .i64 0, .slice none 0 0]) ?_ 0 _ rfl; (with_reducible repeat (first | refine blk_drewN ?_ _ | refine blk_drew ?_ | refine blk_alloc ?_ _)); refine blk_far ?_ NB124_126.out _; (with_reducible repeat (first | refine blk_drewN ?_ _ | refine blk_drew ?_ | refine blk_alloc ?_ _)); refine blk_far ?_ NB124_126.out _; (with_reducible repeat (first | refine blk_drewN ?_ _ | refine blk_drew ?_ | refine blk_alloc ?_ _)); exact BK124.out) Try.underlying58 rfl (by kernel_rfl)) rfl ?_
     exact ⟨_, zE, by first | exact Kd.R_nil _ _ _ _ _ | exact Kd.N_nil _ _ _ _ _ | exact Kd.V_nil _ _ _ _ _ | exact Kd.Q_nil _ _ _ _ _ | exact Kd.S_nil _ _ _ _ _, zB HB⟩
  ·rw [if_neg c9] at H
   exact absurd H (by simp)

end Go.Proofs.Yticpmgofegaaeaa.PFnExactSkipsTail
