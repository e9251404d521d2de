-- WRITTEN by pp.py, this session's own wrapper around the print; not trusted: Lean checks it
import Derived.Test.YtfnbfconhpppfaaPFnExactTroubleAtx0
import Derived.Test.YtfnbfconhpppfaaPFnExactTroubleAtx1
import Derived.Test.YtfnbfconhpppfaaPFnExactTroubleAtx2
import Derived.Test.YtfnbfconhpppfaaPFnExactTroubleAtx6
import Derived.Test.YtfnbfconhpppfaaPFnExactTroubleAtx10
namespace Go.Proofs.Ytfnbfconhpppfaa.PFnExactTroubleAt
open Go.RowKit Go.Proofs.Ytfnbfconhpppfaa.Hw Go.Proofs.YtfnbfconhpppfaaW.PrintWords Go.Proofs.YtfnbfconhpppfaaW.PrintLast Go.Proofs.YtfnbfconhpppfaaW.PrintMore
attribute [local go_sem] max2_int min2_int max_two min_two max_three min_three max_four min_four   -- for this text's walks alone
set_option linter.unusedVariables false
set_option linter.unusedSimpArgs false
set_option linter.unusedSectionVars false

/-! ### laws_FnExactTroubleAt: function 14 -/
def laws_FnExactTroubleAt.f (k : Nat) (a0_0 : Int) (l0_1 : List Bool) (l0_2 : List (S102)) (a1_0 : Int) (l1_1 : List Bool) (l1_2 : List (S102)) (a2 : Int) (a3 : Int) : Option (Bool) := (laws_szMachine.f a0_0 l0_1 l0_2 1048576).bind fun t334 => (if t334 < 0 then (some true) else ((laws_szMachine.f a1_0 l1_1 l1_2 t334).bind fun t335 => (if t335 < 0 then (some true) else ((laws_toMachine.f k a0_0 l0_1 l0_2).bind fun bt336 => ((laws_toMachine.f k a1_0 l1_1 l1_2).bind fun bt343 => ((spec_TroubleAt.f k bt336.1 bt336.2.1 bt336.2.2 bt343.1 bt343.2.1 bt343.2.2 a2 a3).bind fun t350 => ((laws_toMachine.f k a0_0 l0_1 l0_2).bind fun bt351 => ((laws_toMachine.f k a1_0 l1_1 l1_2).bind fun bt359 => ((impl_TroubleAt.f k bt351.1 bt351.2.1 bt351.2.2 bt359.1 bt359.2.1 bt359.2.2 a2 a3).bind fun t367 => (if t367 = t350 then ((laws_toMachine.f k a0_0 l0_1 l0_2).bind fun bt368 => ((laws_eqMachine.f k bt351.1 bt351.2.1 bt351.2.2 bt368.1 bt368.2.1 bt368.2.2).bind fun t375 => (if t375 = true then ((laws_toMachine.f k a1_0 l1_1 l1_2).bind fun bt376 => ((laws_eqMachine.f k bt359.1 bt359.2.1 bt359.2.2 bt376.1 bt376.2.1 bt376.2.2).bind fun t383 => (if t383 = true then (some true) else (some false)))) else (some false)))) else (some false)))))))))))
theorem laws_FnExactTroubleAt.mono : ∀ a0 a1 a2 a3 a4 a5 a6 a7 k, LeO (laws_FnExactTroubleAt.f k a0 a1 a2 a3 a4 a5 a6 a7) (laws_FnExactTroubleAt.f (k + 1) a0 a1 a2 a3 a4 a5 a6 a7) := by
 intro a0 a1 a2 a3 a4 a5 a6 a7 k
 unfold laws_FnExactTroubleAt.f
 repeat' first
   | (with_reducible exact impl_TroubleAt.mono _ _ _ _ _ _ _ _ _)
   | (with_reducible exact laws_eqMachine.mono _ _ _ _ _ _ _)
   | (with_reducible exact laws_toMachine.mono _ _ _ _)
   | (with_reducible exact spec_TroubleAt.mono _ _ _ _ _ _ _ _ _)
   | (with_reducible exact LeO.refl _)
   | (with_reducible exact LeO.none _)
   | (with_reducible refine LeO.ite ?_ ?_)
   | (with_reducible refine LeO.bind ?_ (fun _ => ?_))
   | exact impl_TroubleAt.mono _ _ _ _ _ _ _ _ _
   | exact laws_eqMachine.mono _ _ _ _ _ _ _
   | exact laws_toMachine.mono _ _ _ _
   | exact spec_TroubleAt.mono _ _ _ _ _ _ _ _ _
   | exact LeO.none _
   | refine LeO.ite ?_ ?_
   | refine LeO.bind ?_ (fun _ => ?_)
def laws_FnExactTroubleAt.T8 : Bool × List (List Nat × List Nat) := (true, [([], []), ([0], [0]), ([], []), ([2, 1], [2]), ([], []), ([], []), ([1, 3, 4, 5, 3], [1, 3, 4, 5]), ([6, 6, 0, 1, 2, 3, 4, 5, 6], [6])])
def laws_FnExactTroubleAt.B8 : List Nat := [0, 1, 0, 7, 0, 0, 63, 127]
theorem laws_FnExactTroubleAt.tab8 : rtab .any (opsOf Try.f14 8) = laws_FnExactTroubleAt.T8 := by kernel_rfl
theorem laws_FnExactTroubleAt.bits8 : waitsOk laws_FnExactTroubleAt.T8.2 laws_FnExactTroubleAt.B8 = true := by kernel_rfl
set_option maxHeartbeats 8000000 in
set_option maxRecDepth 100000 in
theorem laws_FnExactTroubleAt.calls (k : Nat) (a0_0 : Int) (A0_1 : Option Addr) (c0_1 : Nat) (l0_1 : List Bool) (A0_2 : Option Addr) (c0_2 : Nat) (l0_2 : List (S102)) (a1_0 : Int) (A1_1 : Option Addr) (c1_1 : Nat) (l1_1 : List Bool) (A1_2 : Option Addr) (c1_2 : Nat) (l1_2 : List (S102)) (a2 : Int) (a3 : Int) (r : Bool) (w : World) (hr0_1 : Kd.C Kd.bool w A0_1 l0_1.length l0_1) (hc0_1 : l0_1.length ≤ c0_1) (hr0_2 : Kd.C k102 w A0_2 l0_2.length l0_2) (hc0_2 : l0_2.length ≤ c0_2) (hr1_1 : Kd.C Kd.bool w A1_1 l1_1.length l1_1) (hc1_1 : l1_1.length ≤ c1_1) (hr1_2 : Kd.C k102 w A1_2 l1_2.length l1_2) (hc1_2 : l1_2.length ≤ c1_2) (ht_ : r = true) (h : laws_FnExactTroubleAt.f k a0_0 l0_1 l0_2 a1_0 l1_1 l1_2 a2 a3 = some r) :
  Calls Try.prog 14 #[.agg #[.int .i64 a0_0, .slice A0_1 l0_1.length c0_1, .slice A0_2 l0_2.length c0_2], .agg #[.int .i64 a1_0, .slice A1_1 l1_1.length c1_1, .slice A1_2 l1_2.length c1_2], .int .i64 a2, .int .i64 a3] w fun e w' => e = .returned (.bool r) ∧ Below w.heap.size w w' := by
 have hu35 := Try.underlying35
 have hu31 := Try.underlying31
 have HR0_1 := Aside0.mk hr0_1
 have HC0_1 := Aside0.mk hc0_1
 clear hr0_1 hc0_1
 have HR0_2 := Aside0.mk hr0_2
 have HC0_2 := Aside0.mk hc0_2
 clear hr0_2 hc0_2
 have HR1_1 := Aside0.mk hr1_1
 have HC1_1 := Aside0.mk hc1_1
 clear hr1_1 hc1_1
 have HR1_2 := Aside0.mk hr1_2
 have HC1_2 := Aside0.mk hc1_2
 clear hr1_2 hc1_2
 have HB := Aside0.mk (Below.refl w.heap.size w)
 have H : ((laws_szMachine.f a0_0 l0_1 l0_2 1048576).bind fun t334 => (if t334 < 0 then (some true) else ((laws_szMachine.f a1_0 l1_1 l1_2 t334).bind fun t335 => (if t335 < 0 then (some true) else ((laws_toMachine.f k a0_0 l0_1 l0_2).bind fun bt336 => ((laws_toMachine.f k a1_0 l1_1 l1_2).bind fun bt343 => ((spec_TroubleAt.f k bt336.1 bt336.2.1 bt336.2.2 bt343.1 bt343.2.1 bt343.2.2 a2 a3).bind fun t350 => ((laws_toMachine.f k a0_0 l0_1 l0_2).bind fun bt351 => ((laws_toMachine.f k a1_0 l1_1 l1_2).bind fun bt359 => ((impl_TroubleAt.f k bt351.1 bt351.2.1 bt351.2.2 bt359.1 bt359.2.1 bt359.2.2 a2 a3).bind fun t367 => (if t367 = t350 then ((laws_toMachine.f k a0_0 l0_1 l0_2).bind fun bt368 => ((laws_eqMachine.f k bt351.1 bt351.2.1 bt351.2.2 bt368.1 bt368.2.1 bt368.2.2).bind fun t375 => (if t375 = true then ((laws_toMachine.f k a1_0 l1_1 l1_2).bind fun bt376 => ((laws_eqMachine.f k bt359.1 bt359.2.1 bt359.2.2 bt376.1 bt376.2.1 bt376.2.2).bind fun t383 => (if t383 = true then (some true) else (some false)))) else (some false)))) else (some false)))))))))))) = some r := h
 clear h
 replace H := Option.bind_eq_some_iff.mp H
 obtain ⟨t334, A50, H⟩ := H
 replace H : (if t334 < 0 then (some true) else ((laws_szMachine.f a1_0 l1_1 l1_2 t334).bind fun t335 => (if t335 < 0 then (some true) else ((laws_toMachine.f k a0_0 l0_1 l0_2).bind fun bt336 => ((laws_toMachine.f k a1_0 l1_1 l1_2).bind fun bt343 => ((spec_TroubleAt.f k bt336.1 bt336.2.1 bt336.2.2 bt343.1 bt343.2.1 bt343.2.2 a2 a3).bind fun t350 => ((laws_toMachine.f k a0_0 l0_1 l0_2).bind fun bt351 => ((laws_toMachine.f k a1_0 l1_1 l1_2).bind fun bt359 => ((impl_TroubleAt.f k bt351.1 bt351.2.1 bt351.2.2 bt359.1 bt359.2.1 bt359.2.2 a2 a3).bind fun t367 => (if t367 = t350 then ((laws_toMachine.f k a0_0 l0_1 l0_2).bind fun bt368 => ((laws_eqMachine.f k bt351.1 bt351.2.1 bt351.2.2 bt368.1 bt368.2.1 bt368.2.2).bind fun t375 => (if t375 = true then ((laws_toMachine.f k a1_0 l1_1 l1_2).bind fun bt376 => ((laws_eqMachine.f k bt359.1 bt359.2.1 bt359.2.2 bt376.1 bt376.2.1 bt376.2.2).bind fun t383 => (if t383 = true then (some true) else (some false)))) else (some false)))) else (some false))))))))))) = some r := H
 have A5 := Aside0.mk A50
 clear A50
 by_cases c6 : t334 < 0
 ·rw [if_pos c6] at H
  have c6b0 : decide (t334 < 0) = true := decide_eq_true c6
  clear c6
  obtain rfl := Option.some.inj H
  go_enter Try.func14, Try.ntmps14
  go_wp2_with (first | ((with_reducible refine gate_dst (N := 4) rfl ?_); refine box_event ?hg (N := 4) ?hd (cs := #[.int .i64 a0_0, .slice A0_1 l0_1.length c0_1, .slice A0_2 l0_2.length c0_2]) (t := 35) ?hr ?_; (case hd => rfl); (case hg => rfl); (case hr => first | (go_simp; done) | (go_simp; rfl)); intro gb332 hg w7 hbox hb; have n0_ := bS HB hb; have n1_ := Aside0.mk (hbox); have n2_ := gS HB hg; have n3_ := gS HB hg; clear HB; have HB := n0_; have BK332 := n1_; have GW332 := n2_; have GE332 := n3_; clear n0_ n1_ n2_ n3_; clear hb hbox hg) | ((with_reducible refine gate_dst (N := 5) rfl ?_); refine box_event ?hg (N := 5) ?hd (cs := #[.int .i64 a1_0, .slice A1_1 l1_1.length c1_1, .slice A1_2 l1_2.length c1_2]) (t := 35) ?hr ?_; (case hd => rfl); (case hg => rfl); (case hr => first | (go_simp; done) | (go_simp; rfl)); intro gb333 hg w8 hbox hb; have n0_ := kB BK332 hb; have n1_ := bS HB hb; have n2_ := Aside0.mk (hbox); have n3_ := gS HB hg; have n4_ := gS HB hg; have n5_ := Aside0.mk ((by rw [hg]; exact Nat.ne_of_lt (blk_lt (g := gb332) (o := .cells #[.int .i64 a0_0, .slice A0_1 l0_1.length c0_1, .slice A0_2 l0_2.length c0_2] 35 (0, 0)) (zK BK332)) : gb332 ≠ gb333)); have n6_ := Aside0.mk ((by rw [hg]; exact Nat.ne_of_gt (blk_lt (g := gb332) (o := .cells #[.int .i64 a0_0, .slice A0_1 l0_1.length c0_1, .slice A0_2 l0_2.length c0_2] 35 (0, 0)) (zK BK332)) : gb333 ≠ gb332)); clear BK332; clear HB; have BK332 := n0_; have HB := n1_; have BK333 := n2_; have GW333 := n3_; have GE333 := n4_; have NB332_333 := n5_; have NB333_332 := n6_; clear n0_ n1_ n2_ n3_ n4_ n5_ n6_; clear hb hbox hg; have hnb9 := NB332_333.out; have hnc9 := NB333_332.out; have hcz10_0 := bc0 BK332; have hcz10_1 := bc1 BK332; have hcz10_2 := bc2 BK332; have hfz10_0 := bf BK332 0; have hfz10_1 := bf BK332 1; have hfz10_2 := bf BK332 2) | ((with_reducible refine gate_callee (f := 27) rfl ?_); refine goesL_ (some 16) rfl rfl Try.func27 (by kernel_rfl) rfl #[.agg #[.int .i64 a0_0, .slice A0_1 l0_1.length c0_1, .slice A0_2 l0_2.length c0_2], .int .i64 1048576] rfl zG ?_; (with_reducible refine (laws_szMachine.calls a0_0 _ _ l0_1 _ _ l0_2 1048576 t334 _ ?side1 ?side2 ?side3 ?side4 A5.out).mono ?_); (case side1 => exact cS HR0_1 HB); (case side2 => exact HC0_1.out); (case side3 => exact cS HR0_2 HB); (case side4 => exact HC0_2.out); rintro e w11 ⟨rfl, hb⟩; refine ⟨_, rfl, ?_⟩; have n0_ := kB BK332 hb; have n1_ := kB BK333 hb; have n2_ := bS HB hb; clear BK332; clear BK333; clear HB; have BK332 := n0_; have BK333 := n1_; have HB := n2_; clear n0_ n1_ n2_; (try clear hb)))
  go_ret
  exact ⟨by first | rfl | (simp [errW_none, errW_some] <;> rfl) | (simp [*, errW_none, errW_some] <;> rfl), by repeat (first | (with_reducible first | exact HB.out | apply below_alloc | apply pw_below_drewN | apply below_drew1 | refine below_set ?_ GE332.out | refine below_set ?_ GE333.out) | exact HB.out)⟩
 ·rw [if_neg c6] at H
  have c6b0 : decide (t334 < 0) = false := decide_eq_false c6
  clear c6
  replace H := Option.bind_eq_some_iff.mp H
  obtain ⟨t335, A120, H⟩ := H
  replace H : (if t335 < 0 then (some true) else ((laws_toMachine.f k a0_0 l0_1 l0_2).bind fun bt336 => ((laws_toMachine.f k a1_0 l1_1 l1_2).bind fun bt343 => ((spec_TroubleAt.f k bt336.1 bt336.2.1 bt336.2.2 bt343.1 bt343.2.1 bt343.2.2 a2 a3).bind fun t350 => ((laws_toMachine.f k a0_0 l0_1 l0_2).bind fun bt351 => ((laws_toMachine.f k a1_0 l1_1 l1_2).bind fun bt359 => ((impl_TroubleAt.f k bt351.1 bt351.2.1 bt351.2.2 bt359.1 bt359.2.1 bt359.2.2 a2 a3).bind fun t367 => (if t367 = t350 then ((laws_toMachine.f k a0_0 l0_1 l0_2).bind fun bt368 => ((laws_eqMachine.f k bt351.1 bt351.2.1 bt351.2.2 bt368.1 bt368.2.1 bt368.2.2).bind fun t375 => (if t375 = true then ((laws_toMachine.f k a1_0 l1_1 l1_2).bind fun bt376 => ((laws_eqMachine.f k bt359.1 bt359.2.1 bt359.2.2 bt376.1 bt376.2.1 bt376.2.2).bind fun t383 => (if t383 = true then (some true) else (some false)))) else (some false)))) else (some false))))))))) = some r := H
  have A12 := Aside0.mk A120
  clear A120
  by_cases c13 : t335 < 0
  ·rw [if_pos c13] at H
   have c13b0 : decide (t335 < 0) = true := decide_eq_true c13
   clear c13
   obtain rfl := Option.some.inj H
   go_enter Try.func14, Try.ntmps14
   go_wp2_with (first | ((with_reducible refine gate_dst (N := 4) rfl ?_); refine box_event ?hg (N := 4) ?hd (cs := #[.int .i64 a0_0, .slice A0_1 l0_1.length c0_1, .slice A0_2 l0_2.length c0_2]) (t := 35) ?hr ?_; (case hd => rfl); (case hg => rfl); (case hr => first | (go_simp; done) | (go_simp; rfl)); intro gb332 hg w14 hbox hb; have n0_ := bS HB hb; have n1_ := Aside0.mk (hbox); have n2_ := gS HB hg; have n3_ := gS HB hg; clear HB; have HB := n0_; have BK332 := n1_; have GW332 := n2_; have GE332 := n3_; clear n0_ n1_ n2_ n3_; clear hb hbox hg) | ((with_reducible refine gate_dst (N := 5) rfl ?_); refine box_event ?hg (N := 5) ?hd (cs := #[.int .i64 a1_0, .slice A1_1 l1_1.length c1_1, .slice A1_2 l1_2.length c1_2]) (t := 35) ?hr ?_; (case hd => rfl); (case hg => rfl); (case hr => first | (go_simp; done) | (go_simp; rfl)); intro gb333 hg w15 hbox hb; have n0_ := kB BK332 hb; have n1_ := bS HB hb; have n2_ := Aside0.mk (hbox); have n3_ := gS HB hg; have n4_ := gS HB hg; have n5_ := Aside0.mk ((by rw [hg]; exact Nat.ne_of_lt (blk_lt (g := gb332) (o := .cells #[.int .i64 a0_0, .slice A0_1 l0_1.length c0_1, .slice A0_2 l0_2.length c0_2] 35 (0, 0)) (zK BK332)) : gb332 ≠ gb333)); have n6_ := Aside0.mk ((by rw [hg]; exact Nat.ne_of_gt (blk_lt (g := gb332) (o := .cells #[.int .i64 a0_0, .slice A0_1 l0_1.length c0_1, .slice A0_2 l0_2.length c0_2] 35 (0, 0)) (zK BK332)) : gb333 ≠ gb332)); clear BK332; clear HB; have BK332 := n0_; have HB := n1_; have BK333 := n2_; have GW333 := n3_; have GE333 := n4_; have NB332_333 := n5_; have NB333_332 := n6_; clear n0_ n1_ n2_ n3_ n4_ n5_ n6_; clear hb hbox hg; have hnb16 := NB332_333.out; have hnc16 := NB333_332.out; have hcz17_0 := bc0 BK332; have hcz17_1 := bc1 BK332; have hcz17_2 := bc2 BK332; have hfz17_0 := bf BK332 0; have hfz17_1 := bf BK332 1; have hfz17_2 := bf BK332 2) | ((with_reducible refine gate_callee (f := 27) rfl ?_); refine goesL_ (some 16) rfl rfl Try.func27 (by kernel_rfl) rfl #[.agg #[.int .i64 a0_0, .slice A0_1 l0_1.length c0_1, .slice A0_2 l0_2.length c0_2], .int .i64 1048576] rfl zG ?_; (with_reducible refine (laws_szMachine.calls a0_0 _ _ l0_1 _ _ l0_2 1048576 t334 _ ?side1 ?side2 ?side3 ?side4 A5.out).mono ?_); (case side1 => exact cS HR0_1 HB); (case side2 => exact HC0_1.out); (case side3 => exact cS HR0_2 HB); (case side4 => exact HC0_2.out); rintro e w18 ⟨rfl, hb⟩; refine ⟨_, rfl, ?_⟩; have n0_ := kB BK332 hb; have n1_ := kB BK333 hb; have n2_ := bS HB hb; clear BK332; clear BK333; clear HB; have BK332 := n0_; have BK333 := n1_; have HB := n2_; clear n0_ n1_ n2_; (try clear hb); have hcz19_0 := bc0 BK333; have hcz19_1 := bc1 BK333; have hcz19_2 := bc2 BK333; have hfz19_0 := bf BK333 0; have hfz19_1 := bf BK333 1; have hfz19_2 := bf BK333 2) | ((with_reducible refine gate_callee (f := 27) rfl ?_); refine goesL_ (some 21) rfl rfl Try.func27 (by kernel_rfl) rfl #[.agg #[.int .i64 a1_0, .slice A1_1 l1_1.length c1_1, .slice A1_2 l1_2.length c1_2], .int .i64 t334] rfl zG ?_; (with_reducible refine (laws_szMachine.calls a1_0 _ _ l1_1 _ _ l1_2 t334 t335 _ ?side1 ?side2 ?side3 ?side4 A12.out).mono ?_); (case side1 => exact cS HR1_1 HB); (case side2 => exact HC1_1.out); (case side3 => exact cS HR1_2 HB); (case side4 => exact HC1_2.out); rintro e w20 ⟨rfl, hb⟩; refine ⟨_, rfl, ?_⟩; have n0_ := kB BK332 hb; have n1_ := kB BK333 hb; have n2_ := bS HB hb; clear BK332; clear BK333; clear HB; have BK332 := n0_; have BK333 := n1_; have HB := n2_; clear n0_ n1_ n2_; (try clear hb)))
   go_ret
   exact ⟨by first | rfl | (simp [errW_none, errW_some] <;> rfl) | (simp [*, errW_none, errW_some] <;> rfl), by repeat (first | (with_reducible first | exact HB.out | apply below_alloc | apply pw_below_drewN | apply below_drew1 | refine below_set ?_ GE332.out | refine below_set ?_ GE333.out) | exact HB.out)⟩
  ·rw [if_neg c13] at H
   have c13b0 : decide (t335 < 0) = false := decide_eq_false c13
   clear c13
   replace H := Option.bind_eq_some_iff.mp H
   obtain ⟨⟨t336, t337, t340⟩, A210, H⟩ := H
   replace H : ((laws_toMachine.f k a1_0 l1_1 l1_2).bind fun bt343 => ((spec_TroubleAt.f k t336 t337 t340 bt343.1 bt343.2.1 bt343.2.2 a2 a3).bind fun t350 => ((laws_toMachine.f k a0_0 l0_1 l0_2).bind fun bt351 => ((laws_toMachine.f k a1_0 l1_1 l1_2).bind fun bt359 => ((impl_TroubleAt.f k bt351.1 bt351.2.1 bt351.2.2 bt359.1 bt359.2.1 bt359.2.2 a2 a3).bind fun t367 => (if t367 = t350 then ((laws_toMachine.f k a0_0 l0_1 l0_2).bind fun bt368 => ((laws_eqMachine.f k bt351.1 bt351.2.1 bt351.2.2 bt368.1 bt368.2.1 bt368.2.2).bind fun t375 => (if t375 = true then ((laws_toMachine.f k a1_0 l1_1 l1_2).bind fun bt376 => ((laws_eqMachine.f k bt359.1 bt359.2.1 bt359.2.2 bt376.1 bt376.2.1 bt376.2.2).bind fun t383 => (if t383 = true then (some true) else (some false)))) else (some false)))) else (some false))))))) = some r := H
   have A21 := Aside0.mk A210
   clear A210
   replace H := Option.bind_eq_some_iff.mp H
   obtain ⟨⟨t343, t344, t347⟩, A220, H⟩ := H
   replace H : ((spec_TroubleAt.f k t336 t337 t340 t343 t344 t347 a2 a3).bind fun t350 => ((laws_toMachine.f k a0_0 l0_1 l0_2).bind fun bt351 => ((laws_toMachine.f k a1_0 l1_1 l1_2).bind fun bt359 => ((impl_TroubleAt.f k bt351.1 bt351.2.1 bt351.2.2 bt359.1 bt359.2.1 bt359.2.2 a2 a3).bind fun t367 => (if t367 = t350 then ((laws_toMachine.f k a0_0 l0_1 l0_2).bind fun bt368 => ((laws_eqMachine.f k bt351.1 bt351.2.1 bt351.2.2 bt368.1 bt368.2.1 bt368.2.2).bind fun t375 => (if t375 = true then ((laws_toMachine.f k a1_0 l1_1 l1_2).bind fun bt376 => ((laws_eqMachine.f k bt359.1 bt359.2.1 bt359.2.2 bt376.1 bt376.2.1 bt376.2.2).bind fun t383 => (if t383 = true then (some true) else (some false)))) else (some false)))) else (some false)))))) = some r := H
   have A22 := Aside0.mk A220
   clear A220
   replace H := Option.bind_eq_some_iff.mp H
   obtain ⟨t350, A230, H⟩ := H
   replace H : ((laws_toMachine.f k a0_0 l0_1 l0_2).bind fun bt351 => ((laws_toMachine.f k a1_0 l1_1 l1_2).bind fun bt359 => ((impl_TroubleAt.f k bt351.1 bt351.2.1 bt351.2.2 bt359.1 bt359.2.1 bt359.2.2 a2 a3).bind fun t367 => (if t367 = t350 then ((laws_toMachine.f k a0_0 l0_1 l0_2).bind fun bt368 => ((laws_eqMachine.f k bt351.1 bt351.2.1 bt351.2.2 bt368.1 bt368.2.1 bt368.2.2).bind fun t375 => (if t375 = true then ((laws_toMachine.f k a1_0 l1_1 l1_2).bind fun bt376 => ((laws_eqMachine.f k bt359.1 bt359.2.1 bt359.2.2 bt376.1 bt376.2.1 bt376.2.2).bind fun t383 => (if t383 = true then (some true) else (some false)))) else (some false)))) else (some false))))) = some r := H
   have A23 := Aside0.mk A230
   clear A230
   replace H := Option.bind_eq_some_iff.mp H
   obtain ⟨⟨t351, t352, t355⟩, A240, H⟩ := H
   replace H : ((laws_toMachine.f k a1_0 l1_1 l1_2).bind fun bt359 => ((impl_TroubleAt.f k t351 t352 t355 bt359.1 bt359.2.1 bt359.2.2 a2 a3).bind fun t367 => (if t367 = t350 then ((laws_toMachine.f k a0_0 l0_1 l0_2).bind fun bt368 => ((laws_eqMachine.f k t351 t352 t355 bt368.1 bt368.2.1 bt368.2.2).bind fun t375 => (if t375 = true then ((laws_toMachine.f k a1_0 l1_1 l1_2).bind fun bt376 => ((laws_eqMachine.f k bt359.1 bt359.2.1 bt359.2.2 bt376.1 bt376.2.1 bt376.2.2).bind fun t383 => (if t383 = true then (some true) else (some false)))) else (some false)))) else (some false)))) = some r := H
   have A24 := Aside0.mk A240
   clear A240
   replace H := Option.bind_eq_some_iff.mp H
   obtain ⟨⟨t359, t360, t363⟩, A250, H⟩ := H
   replace H : ((impl_TroubleAt.f k t351 t352 t355 t359 t360 t363 a2 a3).bind fun t367 => (if t367 = t350 then ((laws_toMachine.f k a0_0 l0_1 l0_2).bind fun bt368 => ((laws_eqMachine.f k t351 t352 t355 bt368.1 bt368.2.1 bt368.2.2).bind fun t375 => (if t375 = true then ((laws_toMachine.f k a1_0 l1_1 l1_2).bind fun bt376 => ((laws_eqMachine.f k t359 t360 t363 bt376.1 bt376.2.1 bt376.2.2).bind fun t383 => (if t383 = true then (some true) else (some false)))) else (some false)))) else (some false))) = some r := H
   have A25 := Aside0.mk A250
   clear A250
   replace H := Option.bind_eq_some_iff.mp H
   obtain ⟨t367, A260, H⟩ := H
   replace H : (if t367 = t350 then ((laws_toMachine.f k a0_0 l0_1 l0_2).bind fun bt368 => ((laws_eqMachine.f k t351 t352 t355 bt368.1 bt368.2.1 bt368.2.2).bind fun t375 => (if t375 = true then ((laws_toMachine.f k a1_0 l1_1 l1_2).bind fun bt376 => ((laws_eqMachine.f k t359 t360 t363 bt376.1 bt376.2.1 bt376.2.2).bind fun t383 => (if t383 = true then (some true) else (some false)))) else (some false)))) else (some false)) = some r := H
   have A26 := Aside0.mk A260
   clear A260
   by_cases c27 : t367 = t350
   ·rw [if_pos c27] at H
    have c27b0 : (t367 == t350) = true := beq_iff_eq.mpr c27
    have c27b1 : (t367 != t350) = false := bne_eq_false_iff_eq.mpr c27
    clear c27
    replace H := Option.bind_eq_some_iff.mp H
    obtain ⟨⟨t368, t369, t372⟩, A280, H⟩ := H
    replace H : ((laws_eqMachine.f k t351 t352 t355 t368 t369 t372).bind fun t375 => (if t375 = true then ((laws_toMachine.f k a1_0 l1_1 l1_2).bind fun bt376 => ((laws_eqMachine.f k t359 t360 t363 bt376.1 bt376.2.1 bt376.2.2).bind fun t383 => (if t383 = true then (some true) else (some false)))) else (some false))) = some r := H
    have A28 := Aside0.mk A280
    clear A280
    replace H := Option.bind_eq_some_iff.mp H
    obtain ⟨t375, A290, H⟩ := H
    replace H : (if t375 = true then ((laws_toMachine.f k a1_0 l1_1 l1_2).bind fun bt376 => ((laws_eqMachine.f k t359 t360 t363 bt376.1 bt376.2.1 bt376.2.2).bind fun t383 => (if t383 = true then (some true) else (some false)))) else (some false)) = some r := H
    have A29 := Aside0.mk A290
    clear A290
    by_cases c30 : t375 = true
    ·subst c30
     have H1 : ((laws_toMachine.f k a1_0 l1_1 l1_2).bind fun bt376 => ((laws_eqMachine.f k t359 t360 t363 bt376.1 bt376.2.1 bt376.2.2).bind fun t383 => (if t383 = true then (some true) else (some false)))) = some r := by rw [if_pos rfl] at H; exact H
     clear H
     have H := H1
     clear H1
     replace H := Option.bind_eq_some_iff.mp H
     obtain ⟨⟨t376, t377, t380⟩, A310, H⟩ := H
     replace H : ((laws_eqMachine.f k t359 t360 t363 t376 t377 t380).bind fun t383 => (if t383 = true then (some true) else (some false))) = some r := H
     have A31 := Aside0.mk A310
     clear A310
     replace H := Option.bind_eq_some_iff.mp H
     obtain ⟨t383, A320, H⟩ := H
     replace H : (if t383 = true then (some true) else (some false)) = some r := H
     have A32 := Aside0.mk A320
     clear A320
     by_cases c33 : t383 = true
     ·subst c33
      have H1 : (some true) = some r := by rw [if_pos rfl] at H; exact H
      clear H
      have H := H1
      clear H1
      obtain rfl := Option.some.inj H
      go_enter Try.func14, Try.ntmps14
      try go_wp2_with (first | ((with_reducible refine gate_dst (N := 4) rfl ?_); refine box_event ?hg (N := 4) ?hd (cs := #[.int .i64 a0_0, .slice A0_1 l0_1.length c0_1, .slice A0_2 l0_2.length c0_2]) (t := 35) ?hr ?_; (case hd => rfl); (case hg => rfl); (case hr => first | (go_simp; done) | (go_simp; rfl)); intro gb332 hg w34 hbox hb; have n0_ := bS HB hb; have n1_ := Aside0.mk (hbox); have n2_ := gS HB hg; have n3_ := gS HB hg; clear HB; have HB := n0_; have BK332 := n1_; have GW332 := n2_; have GE332 := n3_; clear n0_ n1_ n2_ n3_; clear hb hbox hg) | ((with_reducible refine gate_dst (N := 5) rfl ?_); refine box_event ?hg (N := 5) ?hd (cs := #[.int .i64 a1_0, .slice A1_1 l1_1.length c1_1, .slice A1_2 l1_2.length c1_2]) (t := 35) ?hr ?_; (case hd => rfl); (case hg => rfl); (case hr => first | (go_simp; done) | (go_simp; rfl)); intro gb333 hg w35 hbox hb; have n0_ := kB BK332 hb; have n1_ := bS HB hb; have n2_ := Aside0.mk (hbox); have n3_ := gS HB hg; have n4_ := gS HB hg; have n5_ := Aside0.mk ((by rw [hg]; exact Nat.ne_of_lt (blk_lt (g := gb332) (o := .cells #[.int .i64 a0_0, .slice A0_1 l0_1.length c0_1, .slice A0_2 l0_2.length c0_2] 35 (0, 0)) (zK BK332)) : gb332 ≠ gb333)); have n6_ := Aside0.mk ((by rw [hg]; exact Nat.ne_of_gt (blk_lt (g := gb332) (o := .cells #[.int .i64 a0_0, .slice A0_1 l0_1.length c0_1, .slice A0_2 l0_2.length c0_2] 35 (0, 0)) (zK BK332)) : gb333 ≠ gb332)); clear BK332; clear HB; have BK332 := n0_; have HB := n1_; have BK333 := n2_; have GW333 := n3_; have GE333 := n4_; have NB332_333 := n5_; have NB333_332 := n6_; clear n0_ n1_ n2_ n3_ n4_ n5_ n6_; clear hb hbox hg; have hnb36 := NB332_333.out; have hnc36 := NB333_332.out; have hcz37_0 := bc0 BK332; have hcz37_1 := bc1 BK332; have hcz37_2 := bc2 BK332; have hfz37_0 := bf BK332 0; have hfz37_1 := bf BK332 1; have hfz37_2 := bf BK332 2) | ((with_reducible refine gate_callee (f := 27) rfl ?_); refine goesL_ (some 16) rfl rfl Try.func27 (by kernel_rfl) rfl #[.agg #[.int .i64 a0_0, .slice A0_1 l0_1.length c0_1, .slice A0_2 l0_2.length c0_2], .int .i64 1048576] rfl zG ?_; (with_reducible refine (laws_szMachine.calls a0_0 _ _ l0_1 _ _ l0_2 1048576 t334 _ ?side1 ?side2 ?side3 ?side4 A5.out).mono ?_); (case side1 => exact cS HR0_1 HB); (case side2 => exact HC0_1.out); (case side3 => exact cS HR0_2 HB); (case side4 => exact HC0_2.out); rintro e w38 ⟨rfl, hb⟩; refine ⟨_, rfl, ?_⟩; have n0_ := kB BK332 hb; have n1_ := kB BK333 hb; have n2_ := bS HB hb; clear BK332; clear BK333; clear HB; have BK332 := n0_; have BK333 := n1_; have HB := n2_; clear n0_ n1_ n2_; (try clear hb); have hcz39_0 := bc0 BK333; have hcz39_1 := bc1 BK333; have hcz39_2 := bc2 BK333; have hfz39_0 := bf BK333 0; have hfz39_1 := bf BK333 1; have hfz39_2 := bf BK333 2) | ((with_reducible refine gate_callee (f := 27) rfl ?_); refine goesL_ (some 21) rfl rfl Try.func27 (by kernel_rfl) rfl #[.agg #[.int .i64 a1_0, .slice A1_1 l1_1.length c1_1, .slice A1_2 l1_2.length c1_2], .int .i64 t334] rfl zG ?_; (with_reducible refine (laws_szMachine.calls a1_0 _ _ l1_1 _ _ l1_2 t334 t335 _ ?side1 ?side2 ?side3 ?side4 A12.out).mono ?_); (case side1 => exact cS HR1_1 HB); (case side2 => exact HC1_1.out); (case side3 => exact cS HR1_2 HB); (case side4 => exact HC1_2.out); rintro e w40 ⟨rfl, hb⟩; refine ⟨_, rfl, ?_⟩; have n0_ := kB BK332 hb; have n1_ := kB BK333 hb; have n2_ := bS HB hb; clear BK332; clear BK333; clear HB; have BK332 := n0_; have BK333 := n1_; have HB := n2_; clear n0_ n1_ n2_; (try clear hb)))
      have n0_ := Aside0.mk (blk_drew BK332.out)
      have n1_ := Aside0.mk (blk_drew BK333.out)
      have n2_ := Aside0.mk (below_drew1 HB.out)
      clear BK332
      clear BK333
      clear HB
      have BK332 := n0_
      have BK333 := n1_
      have HB := n2_
      clear n0_ n1_ n2_
      refine start_ (n := 8) (S := fun w' => w'.cell? ⟨gb332, 0, none⟩ = some (.int .i64 a0_0) ∧ w'.cell? ⟨gb332, 1, none⟩ = some (.slice A0_1 l0_1.length c0_1) ∧ w'.cell? ⟨gb332, 2, none⟩ = some (.slice A0_2 l0_2.length c0_2) ∧ w'.cell? ⟨gb333, 0, none⟩ = some (.int .i64 a1_0) ∧ w'.cell? ⟨gb333, 1, none⟩ = some (.slice A1_1 l1_1.length c1_1) ∧ w'.cell? ⟨gb333, 2, none⟩ = some (.slice A1_2 l1_2.length c1_2)) (ds := []) (bm 8 0) (by kernel_rfl) rfl (bm0 _) ⟨bc0 BK332, bc1 BK332, bc2 BK332, bc0 BK333, bc1 BK333, bc2 BK333⟩ (fun hHeld => ?_); refine with_tabW laws_FnExactTroubleAt.tab8 laws_FnExactTroubleAt.bits8 (fun HT_ HW_ => ?_)
      generalize w40.drew = w41 at BK332 BK333 HB hHeld ⊢
      refine pure_ (i := 4) (N := some 28) (v := ?_) (a' := ?_) (bm 8 16) rfl rfl (any_of HT_.out (by kernel_rfl)) (fun _ _ _ h => h) (Or.inl ⟨by rfl, ?_⟩) ?_ ?_
      rotate_left
      ·intro w'
       go_simp
       with_reducible rfl
      rotate_left
      ·simp only [Act.put, List.setIfInBounds_toArray, List.set_cons_zero, List.set_cons_succ, i64_w, i32_w]
       rfl
      refine pure_ (i := 5) (N := some 29) (v := ?_) (a' := ?_) (bm 8 48) rfl rfl (any_of HT_.out (by kernel_rfl)) (fun _ _ _ h => h) (Or.inl ⟨by rfl, ?_⟩) ?_ ?_
      rotate_left
      ·intro w'
       go_simp
       with_reducible rfl
      rotate_left
      ·simp only [Act.put, List.setIfInBounds_toArray, List.set_cons_zero, List.set_cons_succ, i64_w, i32_w]
       rfl
      refine take_ (i := 0) (N := some 24) (v := ?_) (a' := ?_) (bm 8 49) rfl rfl (take_ofW HT_.out HW_.out (by kernel_rfl)) (fun _ _ _ h => h) (Or.inl ⟨by rfl, ?_⟩) hHeld ?_ ?_
      rotate_left
      ·rintro w' ⟨s0, s1, s2, s3, s4, s5⟩
       go_simp
       with_reducible rfl
      rotate_left
      ·simp only [Act.put, List.setIfInBounds_toArray, List.set_cons_zero, List.set_cons_succ, i64_w, i32_w]
       rfl
      refine take_ (i := 2) (N := some 26) (v := ?_) (a' := ?_) (bm 8 53) rfl rfl (take_ofW HT_.out HW_.out (by kernel_rfl)) (fun _ _ _ h => h) (Or.inl ⟨by rfl, ?_⟩) hHeld ?_ ?_
      rotate_left
      ·rintro w' ⟨s0, s1, s2, s3, s4, s5⟩
       go_simp
       with_reducible rfl
      rotate_left
      ·simp only [Act.put, List.setIfInBounds_toArray, List.set_cons_zero, List.set_cons_succ, i64_w, i32_w]
       rfl
      refine one_ (i := 1) (N := some 25) (bm 8 55) rfl rfl (one_of HT_.out (by kernel_rfl)) (by decide) (fun K hK => ?_)
      refine goes_ Try.func29 (by kernel_rfl) rfl #[.agg #[.int .i64 a0_0, .slice A0_1 l0_1.length c0_1, .slice A0_2 l0_2.length c0_2]] (by rfl) rfl rfl zG ?_
      with_reducible refine (laws_toMachine.calls k a0_0 _ _ l0_1 _ _ l0_2 t336 t337 t340 _ ?side1 ?side2 ?side3 ?side4 A21.out).mono ?_
      (case side1 => exact cS HR0_1 HB)
      (case side2 => exact HC0_1.out)
      (case side3 => exact cS HR0_2 HB)
      (case side4 => exact HC0_2.out)
      rintro e w42 ⟨v338, v341, rfl, ho0, ho1, hb⟩
      refine ⟨_, rfl, ?_⟩
      have n0_ := Aside0.mk (Kd.R_lower ho0 (below_size (zB HB)))
      have n1_ := Aside0.mk (Kd.R_lower ho1 (below_size (zB HB)))
      have n2_ := kB BK332 hb
      have n3_ := kB BK333 hb
      have n4_ := bS HB hb
      clear BK332
      clear BK333
      clear HB
      have HO339 := n0_
      have HO342 := n1_
      have BK332 := n2_
      have BK333 := n3_
      have HB := n4_
      clear n0_ n1_ n2_ n3_ n4_
      (try clear hb)
      (try clear hb2)
      (try clear hk)
      (try clear hi)
      (try clear ho0)
      (try clear ho1)
      refine hK.out _ _ ⟨bc0 BK332, bc1 BK332, bc2 BK332, bc0 BK333, bc1 BK333, bc2 BK333⟩ (fun hHeld => ?_)
      clear hK K
      refine norm_ (a' := ?_) ?_ ?_
      rotate_left
      ·show Act.put _ (some 25) _ = _
       simp only [Act.put, List.setIfInBounds_toArray, List.set_cons_zero, List.set_cons_succ, i64_w, i32_w]
       rfl
      refine one_ (i := 3) (N := some 27) (bm 8 63) rfl rfl (one_of HT_.out (by kernel_rfl)) (by decide) (fun K hK => ?_)
      refine goes_ Try.func29 (by kernel_rfl) rfl #[.agg #[.int .i64 a1_0, .slice A1_1 l1_1.length c1_1, .slice A1_2 l1_2.length c1_2]] (by rfl) rfl rfl zG ?_
      with_reducible refine (laws_toMachine.calls k a1_0 _ _ l1_1 _ _ l1_2 t343 t344 t347 _ ?side1 ?side2 ?side3 ?side4 A22.out).mono ?_
      (case side1 => exact cS HR1_1 HB)
      (case side2 => exact HC1_1.out)
      (case side3 => exact cS HR1_2 HB)
      (case side4 => exact HC1_2.out)
      rintro e w43 ⟨v345, v348, rfl, ho0, ho1, hb⟩
      refine ⟨_, rfl, ?_⟩
      have n0_ := Aside0.mk (Kd.R_elder' (zR HO339) (Kd.R_base ho0) hb)
      have n1_ := Aside0.mk (Kd.R_elder' (zR HO342) (Kd.R_base ho1) hb)
      have n2_ := Aside0.mk (Kd.R_lower (Kd.R_new' ho0 (Kd.R_lt (zR HO339))) (below_size (zB HB)))
      have n3_ := Aside0.mk (Kd.R_lower (Kd.R_new' ho1 (Kd.R_lt (zR HO342))) (below_size (zB HB)))
      have n4_ := kB BK332 hb
      have n5_ := kB BK333 hb
      have n6_ := bS HB hb
      clear HO339
      clear HO342
      clear BK332
      clear BK333
      clear HB
      have HO339 := n0_
      have HO342 := n1_
      have HO346 := n2_
      have HO349 := n3_
      have BK332 := n4_
      have BK333 := n5_
      have HB := n6_
      clear n0_ n1_ n2_ n3_ n4_ n5_ n6_
      (try clear hb)
      (try clear hb2)
      (try clear hk)
      (try clear hi)
      (try clear ho0)
      (try clear ho1)
      obtain ⟨Ao44, co44, eo44⟩ := Kd.R_slice HO339.out
      (first | subst eo44 | (injection eo44 with f1_ f2_ f3_; have f4_ := f1_.symm; have f5_ := f3_.symm; clear f1_ f2_ f3_; subst f4_; subst f5_))
      obtain ⟨Ao45, co45, eo45⟩ := Kd.R_slice HO342.out
      (first | subst eo45 | (injection eo45 with f1_ f2_ f3_; have f4_ := f1_.symm; have f5_ := f3_.symm; clear f1_ f2_ f3_; subst f4_; subst f5_))
      obtain ⟨Ao46, co46, eo46⟩ := Kd.R_slice HO346.out
      (first | subst eo46 | (injection eo46 with f1_ f2_ f3_; have f4_ := f1_.symm; have f5_ := f3_.symm; clear f1_ f2_ f3_; subst f4_; subst f5_))
      obtain ⟨Ao47, co47, eo47⟩ := Kd.R_slice HO349.out
      (first | subst eo47 | (injection eo47 with f1_ f2_ f3_; have f4_ := f1_.symm; have f5_ := f3_.symm; clear f1_ f2_ f3_; subst f4_; subst f5_))
      refine hK.out _ _ ⟨bc0 BK332, bc1 BK332, bc2 BK332, bc0 BK333, bc1 BK333, bc2 BK333⟩ (fun hHeld => ?_)
      clear hK K
      refine norm_ (a' := ?_) ?_ ?_
      rotate_left
      ·show Act.put _ (some 27) _ = _
       simp only [Act.put, List.setIfInBounds_toArray, List.set_cons_zero, List.set_cons_succ, i64_w, i32_w]
       rfl
      refine one_ (i := 6) (N := some 30) (bm 8 127) rfl rfl (one_of HT_.out (by kernel_rfl)) (by decide) (fun K hK => ?_)
      refine goes_ Try.func56 (by kernel_rfl) rfl #[.agg #[.int .i64 t336, .slice Ao44 t337.length co44, .slice Ao45 t340.length co45], .agg #[.int .i64 t343, .slice Ao46 t344.length co46, .slice Ao47 t347.length co47], .int .i64 a2, .int .i64 a3] (by rfl) rfl rfl zG ?_
      with_reducible refine (spec_TroubleAt.calls k t336 _ _ t337 _ _ t340 t343 _ _ t344 _ _ t347 a2 a3 t350 _ ?side1 ?side2 ?side3 ?side4 ?side5 ?side6 ?side7 ?side8 A23.out).mono ?_
      (case side1 => repeat (first | exact (Kd.R_reads' HO339.out).2.2 | (with_reducible refine Kd.C_alloc ?_ _) | (with_reducible refine Kd.C_drewN ?_ _) | (with_reducible refine Kd.C_drew ?_)))
      (case side2 => exact (Kd.R_reads' HO339.out).2.1)
      (case side3 => repeat (first | exact (Kd.R_reads' HO342.out).2.2 | (with_reducible refine Kd.C_alloc ?_ _) | (with_reducible refine Kd.C_drewN ?_ _) | (with_reducible refine Kd.C_drew ?_)))
      (case side4 => exact (Kd.R_reads' HO342.out).2.1)
      (case side5 => repeat (first | exact (Kd.R_reads' HO346.out).2.2 | (with_reducible refine Kd.C_alloc ?_ _) | (with_reducible refine Kd.C_drewN ?_ _) | (with_reducible refine Kd.C_drew ?_)))
      (case side6 => exact (Kd.R_reads' HO346.out).2.1)
      (case side7 => repeat (first | exact (Kd.R_reads' HO349.out).2.2 | (with_reducible refine Kd.C_alloc ?_ _) | (with_reducible refine Kd.C_drewN ?_ _) | (with_reducible refine Kd.C_drew ?_)))
      (case side8 => exact (Kd.R_reads' HO349.out).2.1)
      rintro e w48 ⟨rfl, hb⟩
      refine ⟨_, rfl, ?_⟩
      have n0_ := Aside0.mk (Kd.R_below (zR HO339) hb)
      have n1_ := Aside0.mk (Kd.R_below (zR HO342) hb)
      have n2_ := Aside0.mk (Kd.R_below (zR HO346) hb)
      have n3_ := Aside0.mk (Kd.R_below (zR HO349) hb)
      have n4_ := kB BK332 hb
      have n5_ := kB BK333 hb
      have n6_ := bS HB hb
      clear HO339
      clear HO342
      clear HO346
      clear HO349
      clear BK332
      clear BK333
      clear HB
      have HO339 := n0_
      have HO342 := n1_
      have HO346 := n2_
      have HO349 := n3_
      have BK332 := n4_
      have BK333 := n5_
      have HB := n6_
      clear n0_ n1_ n2_ n3_ n4_ n5_ n6_
      (try clear hb)
      (try clear hb2)
      (try clear hk)
      (try clear hi)
      refine hK.out _ _ ⟨bc0 BK332, bc1 BK332, bc2 BK332, bc0 BK333, bc1 BK333, bc2 BK333⟩ (fun hHeld => ?_)
      clear hK K
      refine norm_ (a' := ?_) ?_ ?_
      rotate_left
      ·show Act.put _ (some 30) _ = _
       simp only [Act.put, List.setIfInBounds_toArray, List.set_cons_zero, List.set_cons_succ, i64_w, i32_w]
       rfl
      refine pure_ (i := 7) (N := some 10) (v := ?_) (a' := ?_) (bm 8 255) rfl rfl (any_of HT_.out (by kernel_rfl)) (fun _ _ _ h => h) (Or.inl ⟨by rfl, ?_⟩) ?_ ?_
      rotate_left
      ·intro w'
       go_simp
       with_reducible rfl
      rotate_left
      ·simp only [Act.put, List.setIfInBounds_toArray, List.set_cons_zero, List.set_cons_succ, i64_w, i32_w]
       rfl
      refine done_ (done_of HT_.out (by kernel_rfl)) ?_
      try clear hHeld
      have hcz49_0 := bc0 BK332
      have hcz49_1 := bc1 BK332
      have hcz49_2 := bc2 BK332
      have hfz49_0 := bf BK332 0
      have hfz49_1 := bf BK332 1
      have hfz49_2 := bf BK332 2
      try go_wp2_with (first | ((with_reducible refine gate_callee (f := 29) rfl ?_); refine goesL_ (some 32) rfl rfl Try.func29 (by kernel_rfl) rfl #[.agg #[.int .i64 a0_0, .slice A0_1 l0_1.length c0_1, .slice A0_2 l0_2.length c0_2]] rfl zG ?_; (with_reducible refine (laws_toMachine.calls k a0_0 _ _ l0_1 _ _ l0_2 t351 t352 t355 _ ?side1 ?side2 ?side3 ?side4 A24.out).mono ?_); (case side1 => exact cS HR0_1 HB); (case side2 => exact HC0_1.out); (case side3 => exact cS HR0_2 HB); (case side4 => exact HC0_2.out); rintro e w50 ⟨v353, v356, rfl, ho0, ho1, hb⟩; refine ⟨_, rfl, ?_⟩; have n0_ := Aside0.mk (Kd.R_elder' (zR HO339) (Kd.R_base ho0) hb); have n1_ := Aside0.mk (Kd.R_elder' (zR HO342) (Kd.R_base ho1) hb); have n2_ := Aside0.mk (Kd.R_elder' (zR HO346) (Kd.R_base ho0) hb); have n3_ := Aside0.mk (Kd.R_elder' (zR HO349) (Kd.R_base ho1) hb); have n4_ := Aside0.mk (Kd.R_lower (Kd.R_new' (Kd.R_new' ho0 (Kd.R_lt (zR HO339))) (Kd.R_lt (zR HO346))) (below_size (zB HB))); have n5_ := Aside0.mk (Kd.R_lower (Kd.R_new' (Kd.R_new' ho1 (Kd.R_lt (zR HO342))) (Kd.R_lt (zR HO349))) (below_size (zB HB))); have n6_ := kB BK332 hb; have n7_ := kB BK333 hb; have n8_ := bS HB hb; clear HO339; clear HO342; clear HO346; clear HO349; clear BK332; clear BK333; clear HB; have HO339 := n0_; have HO342 := n1_; have HO346 := n2_; have HO349 := n3_; have HO354 := n4_; have HO357 := n5_; have BK332 := n6_; have BK333 := n7_; have HB := n8_; clear n0_ n1_ n2_ n3_ n4_ n5_ n6_ n7_ n8_; (try clear hb); (try clear ho0); (try clear ho1)) | ((with_reducible refine gate_dst (N := 11) rfl ?_); refine box_event ?hg (N := 11) ?hd (cs := #[.int .i64 0, .slice none 0 0, .slice none 0 0]) (t := 31) ?hr ?_; (case hd => rfl); (case hg => rfl); (case hr => first | (go_simp; done) | (go_simp; rfl)); intro gb358 hg w51 hbox hb; have n0_ := Aside0.mk (Kd.R_below (zR HO339) hb); have n1_ := Aside0.mk (Kd.R_below (zR HO342) hb); have n2_ := Aside0.mk (Kd.R_below (zR HO346) hb); have n3_ := Aside0.mk (Kd.R_below (zR HO349) hb); have n4_ := Aside0.mk (Kd.R_below (zR HO354) hb); have n5_ := Aside0.mk (Kd.R_below (zR HO357) hb); have n6_ := kB BK332 hb; have n7_ := kB BK333 hb; have n8_ := bS HB hb; have n9_ := Aside0.mk (hbox); have n10_ := gS HB hg; have n11_ := gS HB hg; have n12_ := Aside0.mk ((by rw [hg]; exact Nat.ne_of_lt (blk_lt (g := gb332) (o := .cells #[.int .i64 a0_0, .slice A0_1 l0_1.length c0_1, .slice A0_2 l0_2.length c0_2] 35 (0, 0)) (zK BK332)) : gb332 ≠ gb358)); have n13_ := Aside0.mk ((by rw [hg]; exact Nat.ne_of_gt (blk_lt (g := gb332) (o := .cells #[.int .i64 a0_0, .slice A0_1 l0_1.length c0_1, .slice A0_2 l0_2.length c0_2] 35 (0, 0)) (zK BK332)) : gb358 ≠ gb332)); have n14_ := Aside0.mk ((by rw [hg]; exact Nat.ne_of_lt (blk_lt (g := gb333) (o := .cells #[.int .i64 a1_0, .slice A1_1 l1_1.length c1_1, .slice A1_2 l1_2.length c1_2] 35 (0, 0)) (zK BK333)) : gb333 ≠ gb358)); have n15_ := Aside0.mk ((by rw [hg]; exact Nat.ne_of_gt (blk_lt (g := gb333) (o := .cells #[.int .i64 a1_0, .slice A1_1 l1_1.length c1_1, .slice A1_2 l1_2.length c1_2] 35 (0, 0)) (zK BK333)) : gb358 ≠ gb333)); clear HO339; clear HO342; clear HO346; clear HO349; clear HO354; clear HO357; clear BK332; clear BK333; clear HB; have HO339 := n0_; have HO342 := n1_; have HO346 := n2_; have HO349 := n3_; have HO354 := n4_; have HO357 := n5_; have BK332 := n6_; have BK333 := n7_; have HB := n8_; have BK358 := n9_; have GW358 := n10_; have GE358 := n11_; have NB332_358 := n12_; have NB358_332 := n13_; have NB333_358 := n14_; have NB358_333 := n15_; clear n0_ n1_ n2_ n3_ n4_ n5_ n6_ n7_ n8_ n9_ n10_ n11_ n12_ n13_ n14_ n15_; clear hb hbox hg; have hnb52 := NB358_332.out; have hnc52 := NB332_358.out; have hnb53 := NB358_333.out; have hnc53 := NB333_358.out; have hcz54_0 := bc0 BK358; have hcz54_1 := bc1 BK358; have hcz54_2 := bc2 BK358; have hfz54_0 := bf BK358 0; have hfz54_1 := bf BK358 1; have hfz54_2 := bf BK358 2; obtain ⟨Ao55, co55, eo55⟩ := Kd.R_slice HO354.out; subst eo55; obtain ⟨Ao56, co56, eo56⟩ := Kd.R_slice HO357.out; subst eo56; have hcz57_0 := bc0 BK333; have hcz57_1 := bc1 BK333; have hcz57_2 := bc2 BK333; have hfz57_0 := bf BK333 0; have hfz57_1 := bf BK333 1; have hfz57_2 := bf BK333 2) | ((with_reducible refine gate_callee (f := 29) rfl ?_); refine goesL_ (some 34) rfl rfl Try.func29 (by kernel_rfl) rfl #[.agg #[.int .i64 a1_0, .slice A1_1 l1_1.length c1_1, .slice A1_2 l1_2.length c1_2]] rfl zG ?_; (with_reducible refine (laws_toMachine.calls k a1_0 _ _ l1_1 _ _ l1_2 t359 t360 t363 _ ?side1 ?side2 ?side3 ?side4 A25.out).mono ?_); (case side1 => exact Kd.C_below HR1_1.out (zB HB)); (case side2 => exact HC1_1.out); (case side3 => exact Kd.C_below HR1_2.out (zB HB)); (case side4 => exact HC1_2.out); rintro e w58 ⟨v361, v364, rfl, ho0, ho1, hb⟩; refine ⟨_, rfl, ?_⟩; have n0_ := Aside0.mk (Kd.R_elder' (by (with_reducible repeat (first | apply Kd.R_alloc | apply Kd.R_drewN | apply Kd.R_drew)); exact (Kd.R_mono (Kd.R_far (p := ⟨gb358, 2, none⟩) (Kd.R_far (p := ⟨gb358, 1, none⟩) (Kd.R_far (p := ⟨gb358, 0, none⟩) (Kd.R_types HO339.out BK358.out (by decide)) (fun _ hk => hk.2) (.int .i64 t351)) (fun _ hk => hk.2) (.slice Ao55 t352.length co55)) (fun _ hk => hk.2) (.slice Ao56 t355.length co56)) (fun _ h_ => h_.1))) (Kd.R_base ho0) hb); have n1_ := Aside0.mk (Kd.R_elder' (by (with_reducible repeat (first | apply Kd.R_alloc | apply Kd.R_drewN | apply Kd.R_drew)); exact (Kd.R_mono (Kd.R_far (p := ⟨gb358, 2, none⟩) (Kd.R_far (p := ⟨gb358, 1, none⟩) (Kd.R_far (p := ⟨gb358, 0, none⟩) (Kd.R_types HO342.out BK358.out (by decide)) (fun _ hk => hk.2) (.int .i64 t351)) (fun _ hk => hk.2) (.slice Ao55 t352.length co55)) (fun _ hk => hk.2) (.slice Ao56 t355.length co56)) (fun _ h_ => h_.1))) (Kd.R_base ho1) hb); have n2_ := Aside0.mk (Kd.R_elder' (by (with_reducible repeat (first | apply Kd.R_alloc | apply Kd.R_drewN | apply Kd.R_drew)); exact (Kd.R_mono (Kd.R_far (p := ⟨gb358, 2, none⟩) (Kd.R_far (p := ⟨gb358, 1, none⟩) (Kd.R_far (p := ⟨gb358, 0, none⟩) (Kd.R_types HO346.out BK358.out (by decide)) (fun _ hk => hk.2) (.int .i64 t351)) (fun _ hk => hk.2) (.slice Ao55 t352.length co55)) (fun _ hk => hk.2) (.slice Ao56 t355.length co56)) (fun _ h_ => h_.1))) (Kd.R_base ho0) hb); have n3_ := Aside0.mk (Kd.R_elder' (by (with_reducible repeat (first | apply Kd.R_alloc | apply Kd.R_drewN | apply Kd.R_drew)); exact (Kd.R_mono (Kd.R_far (p := ⟨gb358, 2, none⟩) (Kd.R_far (p := ⟨gb358, 1, none⟩) (Kd.R_far (p := ⟨gb358, 0, none⟩) (Kd.R_types HO349.out BK358.out (by decide)) (fun _ hk => hk.2) (.int .i64 t351)) (fun _ hk => hk.2) (.slice Ao55 t352.length co55)) (fun _ hk => hk.2) (.slice Ao56 t355.length co56)) (fun _ h_ => h_.1))) (Kd.R_base ho1) hb); have n4_ := Aside0.mk (Kd.R_elder' (by (with_reducible repeat (first | apply Kd.R_alloc | apply Kd.R_drewN | apply Kd.R_drew)); exact (Kd.R_mono (Kd.R_far (p := ⟨gb358, 2, none⟩) (Kd.R_far (p := ⟨gb358, 1, none⟩) (Kd.R_far (p := ⟨gb358, 0, none⟩) (Kd.R_types HO354.out BK358.out (by decide)) (fun _ hk => hk.2) (.int .i64 t351)) (fun _ hk => hk.2) (.slice Ao55 t352.length co55)) (fun _ hk => hk.2) (.slice Ao56 t355.length co56)) (fun _ h_ => h_.1))) (Kd.R_base ho0) hb); have n5_ := Aside0.mk (Kd.R_elder' (by (with_reducible repeat (first | apply Kd.R_alloc | apply Kd.R_drewN | apply Kd.R_drew)); exact (Kd.R_mono (Kd.R_far (p := ⟨gb358, 2, none⟩) (Kd.R_far (p := ⟨gb358, 1, none⟩) (Kd.R_far (p := ⟨gb358, 0, none⟩) (Kd.R_types HO357.out BK358.out (by decide)) (fun _ hk => hk.2) (.int .i64 t351)) (fun _ hk => hk.2) (.slice Ao55 t352.length co55)) (fun _ hk => hk.2) (.slice Ao56 t355.length co56)) (fun _ h_ => h_.1))) (Kd.R_base ho1) hb); have n6_ := Aside0.mk (Kd.R_lower (Kd.R_new' (Kd.R_new' (Kd.R_new' ho0 (Kd.R_lt (by (with_reducible repeat (first | apply Kd.R_alloc | apply Kd.R_drewN | apply Kd.R_drew)); exact (Kd.R_mono (Kd.R_far (p := ⟨gb358, 2, none⟩) (Kd.R_far (p := ⟨gb358, 1, none⟩) (Kd.R_far (p := ⟨gb358, 0, none⟩) (Kd.R_types HO339.out BK358.out (by decide)) (fun _ hk => hk.2) (.int .i64 t351)) (fun _ hk => hk.2) (.slice Ao55 t352.length co55)) (fun _ hk => hk.2) (.slice Ao56 t355.length co56)) (fun _ h_ => h_.1))))) (Kd.R_lt (by (with_reducible repeat (first | apply Kd.R_alloc | apply Kd.R_drewN | apply Kd.R_drew)); exact (Kd.R_mono (Kd.R_far (p := ⟨gb358, 2, none⟩) (Kd.R_far (p := ⟨gb358, 1, none⟩) (Kd.R_far (p := ⟨gb358, 0, none⟩) (Kd.R_types HO346.out BK358.out (by decide)) (fun _ hk => hk.2) (.int .i64 t351)) (fun _ hk => hk.2) (.slice Ao55 t352.length co55)) (fun _ hk => hk.2) (.slice Ao56 t355.length co56)) (fun _ h_ => h_.1))))) (Kd.R_lt (by (with_reducible repeat (first | apply Kd.R_alloc | apply Kd.R_drewN | apply Kd.R_drew)); exact (Kd.R_mono (Kd.R_far (p := ⟨gb358, 2, none⟩) (Kd.R_far (p := ⟨gb358, 1, none⟩) (Kd.R_far (p := ⟨gb358, 0, none⟩) (Kd.R_types HO354.out BK358.out (by decide)) (fun _ hk => hk.2) (.int .i64 t351)) (fun _ hk => hk.2) (.slice Ao55 t352.length co55)) (fun _ hk => hk.2) (.slice Ao56 t355.length co56)) (fun _ h_ => h_.1))))) (below_size (zB HB))); have n7_ := Aside0.mk (Kd.R_lower (Kd.R_new' (Kd.R_new' (Kd.R_new' ho1 (Kd.R_lt (by (with_reducible repeat (first | apply Kd.R_alloc | apply Kd.R_drewN | apply Kd.R_drew)); exact (Kd.R_mono (Kd.R_far (p := ⟨gb358, 2, none⟩) (Kd.R_far (p := ⟨gb358, 1, none⟩) (Kd.R_far (p := ⟨gb358, 0, none⟩) (Kd.R_types HO342.out BK358.out (by decide)) (fun _ hk => hk.2) (.int .i64 t351)) (fun _ hk => hk.2) (.slice Ao55 t352.length co55)) (fun _ hk => hk.2) (.slice Ao56 t355.length co56)) (fun _ h_ => h_.1))))) (Kd.R_lt (by (with_reducible repeat (first | apply Kd.R_alloc | apply Kd.R_drewN | apply Kd.R_drew)); exact (Kd.R_mono (Kd.R_far (p := ⟨gb358, 2, none⟩) (Kd.R_far (p := ⟨gb358, 1, none⟩) (Kd.R_far (p := ⟨gb358, 0, none⟩) (Kd.R_types HO349.out BK358.out (by decide)) (fun _ hk => hk.2) (.int .i64 t351)) (fun _ hk => hk.2) (.slice Ao55 t352.length co55)) (fun _ hk => hk.2) (.slice Ao56 t355.length co56)) (fun _ h_ => h_.1))))) (Kd.R_lt (by (with_reducible repeat (first | apply Kd.R_alloc | apply Kd.R_drewN | apply Kd.R_drew)); exact (Kd.R_mono (Kd.R_far (p := ⟨gb358, 2, none⟩) (Kd.R_far (p := ⟨gb358, 1, none⟩) (Kd.R_far (p := ⟨gb358, 0, none⟩) (Kd.R_types HO357.out BK358.out (by decide)) (fun _ hk => hk.2) (.int .i64 t351)) (fun _ hk => hk.2) (.slice Ao55 t352.length co55)) (fun _ hk => hk.2) (.slice Ao56 t355.length co56)) (fun _ h_ => h_.1))))) (below_size (zB HB))); have n8_ := Aside0.mk (blk_below (g := gb332) (o := .cells #[.int .i64 a0_0, .slice A0_1 l0_1.length c0_1, .slice A0_2 l0_2.length c0_2] 35 (0, 0)) (by (with_reducible repeat (first | refine blk_drewN ?_ _ | refine blk_drew ?_ | refine blk_alloc ?_ _)); refine blk_far ?_ NB332_358.out _; (with_reducible repeat (first | refine blk_drewN ?_ _ | refine blk_drew ?_ | refine blk_alloc ?_ _)); refine blk_far ?_ NB332_358.out _; (with_reducible repeat (first | refine blk_drewN ?_ _ | refine blk_drew ?_ | refine blk_alloc ?_ _)); refine blk_far ?_ NB332_358.out _; (with_reducible repeat (first | refine blk_drewN ?_ _ | refine blk_drew ?_ | refine blk_alloc ?_ _)); exact BK332.out) hb); have n9_ := Aside0.mk (blk_below (g := gb333) (o := .cells #[.int .i64 a1_0, .slice A1_1 l1_1.length c1_1, .slice A1_2 l1_2.length c1_2] 35 (0, 0)) (by (with_reducible repeat (first | refine blk_drewN ?_ _ | refine blk_drew ?_ | refine blk_alloc ?_ _)); refine blk_far ?_ NB333_358.out _; (with_reducible repeat (first | refine blk_drewN ?_ _ | refine blk_drew ?_ | refine blk_alloc ?_ _)); refine blk_far ?_ NB333_358.out _; (with_reducible repeat (first | refine blk_drewN ?_ _ | refine blk_drew ?_ | refine blk_alloc ?_ _)); refine blk_far ?_ NB333_358.out _; (with_reducible repeat (first | refine blk_drewN ?_ _ | refine blk_drew ?_ | refine blk_alloc ?_ _)); exact BK333.out) hb); have n10_ := Aside0.mk (blk_below (g := gb358) (o := .cells #[.int .i64 t351, .slice Ao55 t352.length co55, .slice Ao56 t355.length co56] 31 (0, 0)) (by (with_reducible repeat (first | refine blk_drewN ?_ _ | refine blk_drew ?_ | refine blk_alloc ?_ _)); refine blk_put (cs := #[.int .i64 t351, .slice Ao55 t352.length co55, .slice none 0 0]) ?_ 2 _ rfl; (with_reducible repeat (first | refine blk_drewN ?_ _ | refine blk_drew ?_ | refine blk_alloc ?_ _)); refine blk_put (cs := #[.int .i64 t351, .slice none 0 0, .slice none 0 0]) ?_ 1 _ rfl; (with_reducible repeat (first | refine blk_drewN ?_ _ | refine blk_drew ?_ | refine blk_alloc ?_ _)); refine blk_put (cs := #[.int .i64 0, .slice none 0 0, .slice none 0 0]) ?_ 0 _ rfl; (with_reducible repeat (first | refine blk_drewN ?_ _ | refine blk_drew ?_ | refine blk_alloc ?_ _)); exact BK358.out) hb); have n11_ := bS HB hb; clear HO339; clear HO342; clear HO346; clear HO349; clear HO354; clear HO357; clear BK332; clear BK333; clear BK358; clear HB; have HO339 := n0_; have HO342 := n1_; have HO346 := n2_; have HO349 := n3_; have HO354 := n4_; have HO357 := n5_; have HO362 := n6_; have HO365 := n7_; have BK332 := n8_; have BK333 := n9_; have BK358 := n10_; have HB := n11_; clear n0_ n1_ n2_ n3_ n4_ n5_ n6_ n7_ n8_ n9_ n10_ n11_; (try clear hb); (try clear ho0); (try clear ho1)) | ((with_reducible refine gate_dst (N := 12) rfl ?_); refine box_event ?hg (N := 12) ?hd (cs := #[.int .i64 0, .slice none 0 0, .slice none 0 0]) (t := 31) ?hr ?_; (case hd => rfl); (case hg => rfl); (case hr => first | (go_simp; done) | (go_simp; rfl)); intro gb366 hg w59 hbox hb; have n0_ := Aside0.mk (Kd.R_below (zR HO339) hb); have n1_ := Aside0.mk (Kd.R_below (zR HO342) hb); have n2_ := Aside0.mk (Kd.R_below (zR HO346) hb); have n3_ := Aside0.mk (Kd.R_below (zR HO349) hb); have n4_ := Aside0.mk (Kd.R_below (zR HO354) hb); have n5_ := Aside0.mk (Kd.R_below (zR HO357) hb); have n6_ := Aside0.mk (Kd.R_below (zR HO362) hb); have n7_ := Aside0.mk (Kd.R_below (zR HO365) hb); have n8_ := kB BK332 hb; have n9_ := kB BK333 hb; have n10_ := kB BK358 hb; have n11_ := bS HB hb; have n12_ := Aside0.mk (hbox); have n13_ := gS HB hg; have n14_ := gS HB hg; have n15_ := Aside0.mk ((by rw [hg]; exact Nat.ne_of_lt (blk_lt (g := gb332) (o := .cells #[.int .i64 a0_0, .slice A0_1 l0_1.length c0_1, .slice A0_2 l0_2.length c0_2] 35 (0, 0)) (zK BK332)) : gb332 ≠ gb366)); have n16_ := Aside0.mk ((by rw [hg]; exact Nat.ne_of_gt (blk_lt (g := gb332) (o := .cells #[.int .i64 a0_0, .slice A0_1 l0_1.length c0_1, .slice A0_2 l0_2.length c0_2] 35 (0, 0)) (zK BK332)) : gb366 ≠ gb332)); have n17_ := Aside0.mk ((by rw [hg]; exact Nat.ne_of_lt (blk_lt (g := gb333) (o := .cells #[.int .i64 a1_0, .slice A1_1 l1_1.length c1_1, .slice A1_2 l1_2.length c1_2] 35 (0, 0)) (zK BK333)) : gb333 ≠ gb366)); have n18_ := Aside0.mk ((by rw [hg]; exact Nat.ne_of_gt (blk_lt (g := gb333) (o := .cells #[.int .i64 a1_0, .slice A1_1 l1_1.length c1_1, .slice A1_2 l1_2.length c1_2] 35 (0, 0)) (zK BK333)) : gb366 ≠ gb333)); have n19_ := Aside0.mk ((by rw [hg]; exact Nat.ne_of_lt (blk_lt (g := gb358) (o := .cells #[.int .i64 t351, .slice Ao55 t352.length co55, .slice Ao56 t355.length co56] 31 (0, 0)) (zK BK358)) : gb358 ≠ gb366)); have n20_ := Aside0.mk ((by rw [hg]; exact Nat.ne_of_gt (blk_lt (g := gb358) (o := .cells #[.int .i64 t351, .slice Ao55 t352.length co55, .slice Ao56 t355.length co56] 31 (0, 0)) (zK BK358)) : gb366 ≠ gb358)); clear HO339; clear HO342; clear HO346; clear HO349; clear HO354; clear HO357; clear HO362; clear HO365; clear BK332; clear BK333; clear BK358; clear HB; have HO339 := n0_; have HO342 := n1_; have HO346 := n2_; have HO349 := n3_; have HO354 := n4_; have HO357 := n5_; have HO362 := n6_; have HO365 := n7_; have BK332 := n8_; have BK333 := n9_; have BK358 := n10_; have HB := n11_; have BK366 := n12_; have GW366 := n13_; have GE366 := n14_; have NB332_366 := n15_; have NB366_332 := n16_; have NB333_366 := n17_; have NB366_333 := n18_; have NB358_366 := n19_; have NB366_358 := n20_; clear n0_ n1_ n2_ n3_ n4_ n5_ n6_ n7_ n8_ n9_ n10_ n11_ n12_ n13_ n14_ n15_ n16_ n17_ n18_ n19_ n20_; clear hb hbox hg; have hnb60 := NB366_332.out; have hnc60 := NB332_366.out; have hnb61 := NB366_333.out; have hnc61 := NB333_366.out; have hnb62 := NB366_358.out; have hnc62 := NB358_366.out; have hcz63_0 := bc0 BK366; have hcz63_1 := bc1 BK366; have hcz63_2 := bc2 BK366; have hfz63_0 := bf BK366 0; have hfz63_1 := bf BK366 1; have hfz63_2 := bf BK366 2; obtain ⟨Ao64, co64, eo64⟩ := Kd.R_slice HO362.out; subst eo64; obtain ⟨Ao65, co65, eo65⟩ := Kd.R_slice HO365.out; subst eo65; have hcz66_0 := bc0 BK358; have hcz66_1 := bc1 BK358; have hcz66_2 := bc2 BK358; have hfz66_0 := bf BK358 0; have hfz66_1 := bf BK358 1; have hfz66_2 := bf BK358 2) | ((with_reducible refine gate_callee (f := 57) rfl ?_); refine goesL_ (some 39) rfl rfl Try.func57 (by kernel_rfl) rfl #[.agg #[.int .i64 t351, .slice Ao55 t352.length co55, .slice Ao56 t355.length co56], .agg #[.int .i64 t359, .slice Ao64 t360.length co64, .slice Ao65 t363.length co65], .int .i64 a2, .int .i64 a3] rfl zG ?_; (with_reducible refine (impl_TroubleAt.calls k t351 _ _ t352 _ _ t355 t359 _ _ t360 _ _ t363 a2 a3 t367 _ ?side1 ?side2 ?side3 ?side4 ?side5 ?side6 ?side7 ?side8 A26.out).mono ?_); (case side1 => refine (Kd.R_reads' (e := 4) (base := w.heap.size) (ok := fun k_ => (((True ∧ some k_ ≠ (.slice Ao44 t337.length co44 : Value).ownBlock) ∧ some k_ ≠ (.slice Ao46 t344.length co46 : Value).ownBlock) ∧ some k_ ≠ (.slice Ao64 t360.length co64 : Value).ownBlock)) (n := t352.length) (c := co55) ?_).2.2; exact (by (with_reducible repeat (first | apply Kd.R_alloc | apply Kd.R_drewN | apply Kd.R_drew)); exact (Kd.R_mono (Kd.R_far (p := ⟨gb366, 2, none⟩) (Kd.R_far (p := ⟨gb366, 1, none⟩) (Kd.R_far (p := ⟨gb366, 0, none⟩) (Kd.R_types HO354.out BK366.out (by decide)) (fun _ hk => hk.2) (.int .i64 t359)) (fun _ hk => hk.2) (.slice Ao64 t360.length co64)) (fun _ hk => hk.2) (.slice Ao65 t363.length co65)) (fun _ h_ => h_.1)))); (case side2 => exact (Kd.R_reads' HO354.out).2.1); (case side3 => refine (Kd.R_reads' (e := 80) (base := w.heap.size) (ok := fun k_ => (((True ∧ some k_ ≠ (.slice Ao45 t340.length co45 : Value).ownBlock) ∧ some k_ ≠ (.slice Ao47 t347.length co47 : Value).ownBlock) ∧ some k_ ≠ (.slice Ao65 t363.length co65 : Value).ownBlock)) (n := t355.length) (c := co56) ?_).2.2; exact (by (with_reducible repeat (first | apply Kd.R_alloc | apply Kd.R_drewN | apply Kd.R_drew)); exact (Kd.R_mono (Kd.R_far (p := ⟨gb366, 2, none⟩) (Kd.R_far (p := ⟨gb366, 1, none⟩) (Kd.R_far (p := ⟨gb366, 0, none⟩) (Kd.R_types HO357.out BK366.out (by decide)) (fun _ hk => hk.2) (.int .i64 t359)) (fun _ hk => hk.2) (.slice Ao64 t360.length co64)) (fun _ hk => hk.2) (.slice Ao65 t363.length co65)) (fun _ h_ => h_.1)))); (case side4 => exact (Kd.R_reads' HO357.out).2.1); (case side5 => refine (Kd.R_reads' (e := 4) (base := w.heap.size) (ok := fun k_ => (((True ∧ some k_ ≠ (.slice Ao44 t337.length co44 : Value).ownBlock) ∧ some k_ ≠ (.slice Ao46 t344.length co46 : Value).ownBlock) ∧ some k_ ≠ (.slice Ao55 t352.length co55 : Value).ownBlock)) (n := t360.length) (c := co64) ?_).2.2; exact (by (with_reducible repeat (first | apply Kd.R_alloc | apply Kd.R_drewN | apply Kd.R_drew)); exact (Kd.R_mono (Kd.R_far (p := ⟨gb366, 2, none⟩) (Kd.R_far (p := ⟨gb366, 1, none⟩) (Kd.R_far (p := ⟨gb366, 0, none⟩) (Kd.R_types HO362.out BK366.out (by decide)) (fun _ hk => hk.2) (.int .i64 t359)) (fun _ hk => hk.2) (.slice Ao64 t360.length co64)) (fun _ hk => hk.2) (.slice Ao65 t363.length co65)) (fun _ h_ => h_.1)))); (case side6 => exact (Kd.R_reads' HO362.out).2.1); (case side7 => refine (Kd.R_reads' (e := 80) (base := w.heap.size) (ok := fun k_ => (((True ∧ some k_ ≠ (.slice Ao45 t340.length co45 : Value).ownBlock) ∧ some k_ ≠ (.slice Ao47 t347.length co47 : Value).ownBlock) ∧ some k_ ≠ (.slice Ao56 t355.length co56 : Value).ownBlock)) (n := t363.length) (c := co65) ?_).2.2; exact (by (with_reducible repeat (first | apply Kd.R_alloc | apply Kd.R_drewN | apply Kd.R_drew)); exact (Kd.R_mono (Kd.R_far (p := ⟨gb366, 2, none⟩) (Kd.R_far (p := ⟨gb366, 1, none⟩) (Kd.R_far (p := ⟨gb366, 0, none⟩) (Kd.R_types HO365.out BK366.out (by decide)) (fun _ hk => hk.2) (.int .i64 t359)) (fun _ hk => hk.2) (.slice Ao64 t360.length co64)) (fun _ hk => hk.2) (.slice Ao65 t363.length co65)) (fun _ h_ => h_.1)))); (case side8 => exact (Kd.R_reads' HO365.out).2.1); rintro e w67 ⟨rfl, hb⟩; refine ⟨_, rfl, ?_⟩; have n0_ := Aside0.mk (Kd.R_below (by (with_reducible repeat (first | apply Kd.R_alloc | apply Kd.R_drewN | apply Kd.R_drew)); exact (Kd.R_mono (Kd.R_far (p := ⟨gb366, 2, none⟩) (Kd.R_far (p := ⟨gb366, 1, none⟩) (Kd.R_far (p := ⟨gb366, 0, none⟩) (Kd.R_types HO339.out BK366.out (by decide)) (fun _ hk => hk.2) (.int .i64 t359)) (fun _ hk => hk.2) (.slice Ao64 t360.length co64)) (fun _ hk => hk.2) (.slice Ao65 t363.length co65)) (fun _ h_ => h_.1))) hb); have n1_ := Aside0.mk (Kd.R_below (by (with_reducible repeat (first | apply Kd.R_alloc | apply Kd.R_drewN | apply Kd.R_drew)); exact (Kd.R_mono (Kd.R_far (p := ⟨gb366, 2, none⟩) (Kd.R_far (p := ⟨gb366, 1, none⟩) (Kd.R_far (p := ⟨gb366, 0, none⟩) (Kd.R_types HO342.out BK366.out (by decide)) (fun _ hk => hk.2) (.int .i64 t359)) (fun _ hk => hk.2) (.slice Ao64 t360.length co64)) (fun _ hk => hk.2) (.slice Ao65 t363.length co65)) (fun _ h_ => h_.1))) hb); have n2_ := Aside0.mk (Kd.R_below (by (with_reducible repeat (first | apply Kd.R_alloc | apply Kd.R_drewN | apply Kd.R_drew)); exact (Kd.R_mono (Kd.R_far (p := ⟨gb366, 2, none⟩) (Kd.R_far (p := ⟨gb366, 1, none⟩) (Kd.R_far (p := ⟨gb366, 0, none⟩) (Kd.R_types HO346.out BK366.out (by decide)) (fun _ hk => hk.2) (.int .i64 t359)) (fun _ hk => hk.2) (.slice Ao64 t360.length co64)) (fun _ hk => hk.2) (.slice Ao65 t363.length co65)) (fun _ h_ => h_.1))) hb); have n3_ := Aside0.mk (Kd.R_below (by (with_reducible repeat (first | apply Kd.R_alloc | apply Kd.R_drewN | apply Kd.R_drew)); exact (Kd.R_mono (Kd.R_far (p := ⟨gb366, 2, none⟩) (Kd.R_far (p := ⟨gb366, 1, none⟩) (Kd.R_far (p := ⟨gb366, 0, none⟩) (Kd.R_types HO349.out BK366.out (by decide)) (fun _ hk => hk.2) (.int .i64 t359)) (fun _ hk => hk.2) (.slice Ao64 t360.length co64)) (fun _ hk => hk.2) (.slice Ao65 t363.length co65)) (fun _ h_ => h_.1))) hb); have n4_ := Aside0.mk (Kd.R_below (by (with_reducible repeat (first | apply Kd.R_alloc | apply Kd.R_drewN | apply Kd.R_drew)); exact (Kd.R_mono (Kd.R_far (p := ⟨gb366, 2, none⟩) (Kd.R_far (p := ⟨gb366, 1, none⟩) (Kd.R_far (p := ⟨gb366, 0, none⟩) (Kd.R_types HO354.out BK366.out (by decide)) (fun _ hk => hk.2) (.int .i64 t359)) (fun _ hk => hk.2) (.slice Ao64 t360.length co64)) (fun _ hk => hk.2) (.slice Ao65 t363.length co65)) (fun _ h_ => h_.1))) hb); have n5_ := Aside0.mk (Kd.R_below (by (with_reducible repeat (first | apply Kd.R_alloc | apply Kd.R_drewN | apply Kd.R_drew)); exact (Kd.R_mono (Kd.R_far (p := ⟨gb366, 2, none⟩) (Kd.R_far (p := ⟨gb366, 1, none⟩) (Kd.R_far (p := ⟨gb366, 0, none⟩) (Kd.R_types HO357.out BK366.out (by decide)) (fun _ hk => hk.2) (.int .i64 t359)) (fun _ hk => hk.2) (.slice Ao64 t360.length co64)) (fun _ hk => hk.2) (.slice Ao65 t363.length co65)) (fun _ h_ => h_.1))) hb); have n6_ := Aside0.mk (Kd.R_below (by (with_reducible repeat (first | apply Kd.R_alloc | apply Kd.R_drewN | apply Kd.R_drew)); exact (Kd.R_mono (Kd.R_far (p := ⟨gb366, 2, none⟩) (Kd.R_far (p := ⟨gb366, 1, none⟩) (Kd.R_far (p := ⟨gb366, 0, none⟩) (Kd.R_types HO362.out BK366.out (by decide)) (fun _ hk => hk.2) (.int .i64 t359)) (fun _ hk => hk.2) (.slice Ao64 t360.length co64)) (fun _ hk => hk.2) (.slice Ao65 t363.length co65)) (fun _ h_ => h_.1))) hb); have n7_ := Aside0.mk (Kd.R_below (by (with_reducible repeat (first | apply Kd.R_alloc | apply Kd.R_drewN | apply Kd.R_drew)); exact (Kd.R_mono (Kd.R_far (p := ⟨gb366, 2, none⟩) (Kd.R_far (p := ⟨gb366, 1, none⟩) (Kd.R_far (p := ⟨gb366, 0, none⟩) (Kd.R_types HO365.out BK366.out (by decide)) (fun _ hk => hk.2) (.int .i64 t359)) (fun _ hk => hk.2) (.slice Ao64 t360.length co64)) (fun _ hk => hk.2) (.slice Ao65 t363.length co65)) (fun _ h_ => h_.1))) hb); have n8_ := Aside0.mk (blk_below (g := gb332) (o := .cells #[.int .i64 a0_0, .slice A0_1 l0_1.length c0_1, .slice A0_2 l0_2.length c0_2] 35 (0, 0)) (by (with_reducible repeat (first | refine blk_drewN ?_ _ | refine blk_drew ?_ | refine blk_alloc ?_ _)); refine blk_far ?_ NB332_366.out _; (with_reducible repeat (first | refine blk_drewN ?_ _ | refine blk_drew ?_ | refine blk_alloc ?_ _)); refine blk_far ?_ NB332_366.out _; (with_reducible repeat (first | refine blk_drewN ?_ _ | refine blk_drew ?_ | refine blk_alloc ?_ _)); refine blk_far ?_ NB332_366.out _; (with_reducible repeat (first | refine blk_drewN ?_ _ | refine blk_drew ?_ | refine blk_alloc ?_ _)); exact BK332.out) hb); have n9_ := Aside0.mk (blk_below (g := gb333) (o := .cells #[.int .i64 a1_0, .slice A1_1 l1_1.length c1_1, .slice A1_2 l1_2.length c1_2] 35 (0, 0)) (by (with_reducible repeat (first | refine blk_drewN ?_ _ | refine blk_drew ?_ | refine blk_alloc ?_ _)); refine blk_far ?_ NB333_366.out _; (with_reducible repeat (first | refine blk_drewN ?_ _ | refine blk_drew ?_ | refine blk_alloc ?_ _)); refine blk_far ?_ NB333_366.out _; (with_reducible repeat (first | refine blk_drewN ?_ _ | refine blk_drew ?_ | refine blk_alloc ?_ _)); refine blk_far ?_ NB333_366.out _; (with_reducible repeat (first | refine blk_drewN ?_ _ | refine blk_drew ?_ | refine blk_alloc ?_ _)); exact BK333.out) hb); have n10_ := Aside0.mk (blk_below (g := gb358) (o := .cells #[.int .i64 t351, .slice Ao55 t352.length co55, .slice Ao56 t355.length co56] 31 (0, 0)) (by (with_reducible repeat (first | refine blk_drewN ?_ _ | refine blk_drew ?_ | refine blk_alloc ?_ _)); refine blk_far ?_ NB358_366.out _; (with_reducible repeat (first | refine blk_drewN ?_ _ | refine blk_drew ?_ | refine blk_alloc ?_ _)); refine blk_far ?_ NB358_366.out _; (with_reducible repeat (first | refine blk_drewN ?_ _ | refine blk_drew ?_ | refine blk_alloc ?_ _)); refine blk_far ?_ NB358_366.out _; (with_reducible repeat (first | refine blk_drewN ?_ _ | refine blk_drew ?_ | refine blk_alloc ?_ _)); exact BK358.out) hb); have n11_ := Aside0.mk (blk_below (g := gb366) (o := .cells #[.int .i64 t359, .slice Ao64 t360.length co64, .slice Ao65 t363.length co65] 31 (0, 0)) (by (with_reducible repeat (first | refine blk_drewN ?_ _ | refine blk_drew ?_ | refine blk_alloc ?_ _)); refine blk_put (cs := #[.int .i64 t359, .slice Ao64 t360.length co64, .slice none 0 0]) ?_ 2 _ rfl; (with_reducible repeat (first | refine blk_drewN ?_ _ | refine blk_drew ?_ | refine blk_alloc ?_ _)); refine blk_put (cs := #[.int .i64 t359, .slice none 0 0, .slice none 0 0]) ?_ 1 _ rfl; (with_reducible repeat (first | refine blk_drewN ?_ _ | refine blk_drew ?_ | refine blk_alloc ?_ _)); refine blk_put (cs := #[.int .i64 0, .slice none 0 0, .slice none 0 0]) ?_ 0 _ rfl; (with_reducible repeat (first | refine blk_drewN ?_ _ | refine blk_drew ?_ | refine blk_alloc ?_ _)); exact BK366.out) hb); have n12_ := bS HB hb; clear HO339; clear HO342; clear HO346; clear HO349; clear HO354; clear HO357; clear HO362; clear HO365; clear BK332; clear BK333; clear BK358; clear BK366; clear HB; have HO339 := n0_; have HO342 := n1_; have HO346 := n2_; have HO349 := n3_; have HO354 := n4_; have HO357 := n5_; have HO362 := n6_; have HO365 := n7_; have BK332 := n8_; have BK333 := n9_; have BK358 := n10_; have BK366 := n11_; have HB := n12_; clear n0_ n1_ n2_ n3_ n4_ n5_ n6_ n7_ n8_ n9_ n10_ n11_ n12_; (try clear hb)))
      have n0_ := Aside0.mk (Kd.R_drew HO339.out)
      have n1_ := Aside0.mk (Kd.R_drew HO342.out)
      have n2_ := Aside0.mk (Kd.R_drew HO346.out)
      have n3_ := Aside0.mk (Kd.R_drew HO349.out)
      have n4_ := Aside0.mk (Kd.R_drew HO354.out)
      have n5_ := Aside0.mk (Kd.R_drew HO357.out)
      have n6_ := Aside0.mk (Kd.R_drew HO362.out)
      have n7_ := Aside0.mk (Kd.R_drew HO365.out)
      have n8_ := Aside0.mk (blk_drew BK332.out)
      have n9_ := Aside0.mk (blk_drew BK333.out)
      have n10_ := Aside0.mk (blk_drew BK358.out)
      have n11_ := Aside0.mk (blk_drew BK366.out)
      have n12_ := Aside0.mk (below_drew1 HB.out)
      clear HO339
      clear HO342
      clear HO346
      clear HO349
      clear HO354
      clear HO357
      clear HO362
      clear HO365
      clear BK332
      clear BK333
      clear BK358
      clear BK366
      clear HB
      have HO339 := n0_
      have HO342 := n1_
      have HO346 := n2_
      have HO349 := n3_
      have HO354 := n4_
      have HO357 := n5_
      have HO362 := n6_
      have HO365 := n7_
      have BK332 := n8_
      have BK333 := n9_
      have BK358 := n10_
      have BK366 := n11_
      have HB := n12_
      clear n0_ n1_ n2_ n3_ n4_ n5_ n6_ n7_ n8_ n9_ n10_ n11_ n12_
      refine start_ (n := 5) (S := fun w' => w'.cell? ⟨gb358, 0, none⟩ = some (.int .i64 t351) ∧ w'.cell? ⟨gb358, 1, none⟩ = some (.slice Ao55 t352.length co55) ∧ w'.cell? ⟨gb358, 2, none⟩ = some (.slice Ao56 t355.length co56) ∧ w'.cell? ⟨gb332, 0, none⟩ = some (.int .i64 a0_0) ∧ w'.cell? ⟨gb332, 1, none⟩ = some (.slice A0_1 l0_1.length c0_1) ∧ w'.cell? ⟨gb332, 2, none⟩ = some (.slice A0_2 l0_2.length c0_2)) (ds := []) #[false, false, false, false, false] (by kernel_rfl) rfl rfl ⟨bc0 BK358, bc1 BK358, bc2 BK358, bc0 BK332, bc1 BK332, bc2 BK332⟩ (fun hHeld => ?_)
      generalize w67.drew = w68 at HO339 HO342 HO346 HO349 HO354 HO357 HO362 HO365 BK332 BK333 BK358 BK366 HB hHeld ⊢
      refine take_ (i := 0) (N := some 43) (v := ?_) (a' := ?_) #[true, false, false, false, false] rfl rfl (by kernel_rfl) (fun _ _ _ h => h) (Or.inl ⟨by rfl, ?_⟩) hHeld ?_ ?_
      rotate_left
      ·rintro w' ⟨s0, s1, s2, s3, s4, s5⟩
       go_simp
       with_reducible rfl
      rotate_left
      ·simp only [Act.put, List.setIfInBounds_toArray, List.set_cons_zero, List.set_cons_succ, i64_w, i32_w]
       rfl
      refine take_ (i := 1) (N := some 44) (v := ?_) (a' := ?_) #[true, true, false, false, false] rfl rfl (by kernel_rfl) (fun _ _ _ h => h) (Or.inl ⟨by rfl, ?_⟩) hHeld ?_ ?_
      rotate_left
      ·rintro w' ⟨s0, s1, s2, s3, s4, s5⟩
       go_simp
       with_reducible rfl
      rotate_left
      ·simp only [Act.put, List.setIfInBounds_toArray, List.set_cons_zero, List.set_cons_succ, i64_w, i32_w]
       rfl
      refine one_ (i := 2) (N := some 45) #[true, true, true, false, false] rfl rfl (by kernel_rfl) (by decide) (fun K hK => ?_)
      refine goes_ Try.func29 (by kernel_rfl) rfl #[.agg #[.int .i64 a0_0, .slice A0_1 l0_1.length c0_1, .slice A0_2 l0_2.length c0_2]] (by rfl) rfl rfl zG ?_
      with_reducible refine (laws_toMachine.calls k a0_0 _ _ l0_1 _ _ l0_2 t368 t369 t372 _ ?side1 ?side2 ?side3 ?side4 A28.out).mono ?_
      (case side1 => exact cS HR0_1 HB)
      (case side2 => exact HC0_1.out)
      (case side3 => exact cS HR0_2 HB)
      (case side4 => exact HC0_2.out)
      rintro e w69 ⟨v370, v373, rfl, ho0, ho1, hb⟩
      refine ⟨_, rfl, ?_⟩
      have n0_ := Aside0.mk (Kd.R_elder' (zR HO339) (Kd.R_base ho0) hb)
      have n1_ := Aside0.mk (Kd.R_elder' (zR HO342) (Kd.R_base ho1) hb)
      have n2_ := Aside0.mk (Kd.R_elder' (zR HO346) (Kd.R_base ho0) hb)
      have n3_ := Aside0.mk (Kd.R_elder' (zR HO349) (Kd.R_base ho1) hb)
      have n4_ := Aside0.mk (Kd.R_elder' (zR HO354) (Kd.R_base ho0) hb)
      have n5_ := Aside0.mk (Kd.R_elder' (zR HO357) (Kd.R_base ho1) hb)
      have n6_ := Aside0.mk (Kd.R_elder' (zR HO362) (Kd.R_base ho0) hb)
      have n7_ := Aside0.mk (Kd.R_elder' (zR HO365) (Kd.R_base ho1) hb)
      have n8_ := Aside0.mk (Kd.R_lower (Kd.R_new' (Kd.R_new' (Kd.R_new' (Kd.R_new' ho0 (Kd.R_lt (zR HO339))) (Kd.R_lt (zR HO346))) (Kd.R_lt (zR HO354))) (Kd.R_lt (zR HO362))) (below_size (zB HB)))
      have n9_ := Aside0.mk (Kd.R_lower (Kd.R_new' (Kd.R_new' (Kd.R_new' (Kd.R_new' ho1 (Kd.R_lt (zR HO342))) (Kd.R_lt (zR HO349))) (Kd.R_lt (zR HO357))) (Kd.R_lt (zR HO365))) (below_size (zB HB)))
      have n10_ := kB BK332 hb
      have n11_ := kB BK333 hb
      have n12_ := kB BK358 hb
      have n13_ := kB BK366 hb
      have n14_ := bS HB hb
      clear HO339
      clear HO342
      clear HO346
      clear HO349
      clear HO354
      clear HO357
      clear HO362
      clear HO365
      clear BK332
      clear BK333
      clear BK358
      clear BK366
      clear HB
      have HO339 := n0_
      have HO342 := n1_
      have HO346 := n2_
      have HO349 := n3_
      have HO354 := n4_
      have HO357 := n5_
      have HO362 := n6_
      have HO365 := n7_
      have HO371 := n8_
      have HO374 := n9_
      have BK332 := n10_
      have BK333 := n11_
      have BK358 := n12_
      have BK366 := n13_
      have HB := n14_
      clear n0_ n1_ n2_ n3_ n4_ n5_ n6_ n7_ n8_ n9_ n10_ n11_ n12_ n13_ n14_
      (try clear hb)
      (try clear hb2)
      (try clear hk)
      (try clear hi)
      (try clear ho0)
      (try clear ho1)
      obtain ⟨Ao70, co70, eo70⟩ := Kd.R_slice HO371.out
      (first | subst eo70 | (injection eo70 with f1_ f2_ f3_; have f4_ := f1_.symm; have f5_ := f3_.symm; clear f1_ f2_ f3_; subst f4_; subst f5_))
      obtain ⟨Ao71, co71, eo71⟩ := Kd.R_slice HO374.out
      (first | subst eo71 | (injection eo71 with f1_ f2_ f3_; have f4_ := f1_.symm; have f5_ := f3_.symm; clear f1_ f2_ f3_; subst f4_; subst f5_))
      refine hK.out _ _ ⟨bc0 BK358, bc1 BK358, bc2 BK358, bc0 BK332, bc1 BK332, bc2 BK332⟩ (fun hHeld => ?_)
      clear hK K
      refine norm_ (a' := ?_) ?_ ?_
      rotate_left
      ·show Act.put _ (some 45) _ = _
       simp only [Act.put, List.setIfInBounds_toArray, List.set_cons_zero, List.set_cons_succ, i64_w, i32_w]
       rfl
      refine one_ (i := 3) (N := some 46) #[true, true, true, true, false] rfl rfl (by kernel_rfl) (by decide) (fun K hK => ?_)
      refine goes_ Try.func32 (by kernel_rfl) rfl #[.agg #[.int .i64 t351, .slice Ao55 t352.length co55, .slice Ao56 t355.length co56], .agg #[.int .i64 t368, .slice Ao70 t369.length co70, .slice Ao71 t372.length co71]] (by rfl) rfl rfl zG ?_
      with_reducible refine (laws_eqMachine.calls k t351 _ _ t352 _ _ t355 t368 _ _ t369 _ _ t372 true _ ?side1 ?side2 ?side3 ?side4 ?side5 ?side6 ?side7 ?side8 A29.out).mono ?_
      (case side1 => repeat (first | exact (Kd.R_reads' HO354.out).2.2 | (with_reducible refine Kd.C_alloc ?_ _) | (with_reducible refine Kd.C_drewN ?_ _) | (with_reducible refine Kd.C_drew ?_)))
      (case side2 => exact (Kd.R_reads' HO354.out).2.1)
      (case side3 => repeat (first | exact (Kd.R_reads' HO357.out).2.2 | (with_reducible refine Kd.C_alloc ?_ _) | (with_reducible refine Kd.C_drewN ?_ _) | (with_reducible refine Kd.C_drew ?_)))
      (case side4 => exact (Kd.R_reads' HO357.out).2.1)
      (case side5 => repeat (first | exact (Kd.R_reads' HO371.out).2.2 | (with_reducible refine Kd.C_alloc ?_ _) | (with_reducible refine Kd.C_drewN ?_ _) | (with_reducible refine Kd.C_drew ?_)))
      (case side6 => exact (Kd.R_reads' HO371.out).2.1)
      (case side7 => repeat (first | exact (Kd.R_reads' HO374.out).2.2 | (with_reducible refine Kd.C_alloc ?_ _) | (with_reducible refine Kd.C_drewN ?_ _) | (with_reducible refine Kd.C_drew ?_)))
      (case side8 => exact (Kd.R_reads' HO374.out).2.1)
      rintro e w72 ⟨rfl, hb⟩
      refine ⟨_, rfl, ?_⟩
      have n0_ := Aside0.mk (Kd.R_below (zR HO339) hb)
      have n1_ := Aside0.mk (Kd.R_below (zR HO342) hb)
      have n2_ := Aside0.mk (Kd.R_below (zR HO346) hb)
      have n3_ := Aside0.mk (Kd.R_below (zR HO349) hb)
      have n4_ := Aside0.mk (Kd.R_below (zR HO354) hb)
      have n5_ := Aside0.mk (Kd.R_below (zR HO357) hb)
      have n6_ := Aside0.mk (Kd.R_below (zR HO362) hb)
      have n7_ := Aside0.mk (Kd.R_below (zR HO365) hb)
      have n8_ := Aside0.mk (Kd.R_below (zR HO371) hb)
      have n9_ := Aside0.mk (Kd.R_below (zR HO374) hb)
      have n10_ := kB BK332 hb
      have n11_ := kB BK333 hb
      have n12_ := kB BK358 hb
      have n13_ := kB BK366 hb
      have n14_ := bS HB hb
      clear HO339
      clear HO342
      clear HO346
      clear HO349
      clear HO354
      clear HO357
      clear HO362
      clear HO365
      clear HO371
      clear HO374
      clear BK332
      clear BK333
      clear BK358
      clear BK366
      clear HB
      have HO339 := n0_
      have HO342 := n1_
      have HO346 := n2_
      have HO349 := n3_
      have HO354 := n4_
      have HO357 := n5_
      have HO362 := n6_
      have HO365 := n7_
      have HO371 := n8_
      have HO374 := n9_
      have BK332 := n10_
      have BK333 := n11_
      have BK358 := n12_
      have BK366 := n13_
      have HB := n14_
      clear n0_ n1_ n2_ n3_ n4_ n5_ n6_ n7_ n8_ n9_ n10_ n11_ n12_ n13_ n14_
      (try clear hb)
      (try clear hb2)
      (try clear hk)
      (try clear hi)
      refine hK.out _ _ ⟨bc0 BK358, bc1 BK358, bc2 BK358, bc0 BK332, bc1 BK332, bc2 BK332⟩ (fun hHeld => ?_)
      clear hK K
      refine norm_ (a' := ?_) ?_ ?_
      rotate_left
      ·show Act.put _ (some 46) _ = _
       simp only [Act.put, List.setIfInBounds_toArray, List.set_cons_zero, List.set_cons_succ, i64_w, i32_w]
       rfl
      refine pure_ (i := 4) (N := some 47) (v := ?_) (a' := ?_) #[true, true, true, true, true] rfl rfl (by kernel_rfl) (fun _ _ _ h => h) (Or.inl ⟨by rfl, ?_⟩) ?_ ?_
      rotate_left
      ·intro w'
       go_simp
       with_reducible rfl
      rotate_left
      ·simp only [Act.put, List.setIfInBounds_toArray, List.set_cons_zero, List.set_cons_succ, i64_w, i32_w]
       rfl
      refine done_ (by kernel_rfl) ?_
      try clear hHeld
      try go_wp2
      have n0_ := Aside0.mk (Kd.R_drew HO339.out)
      have n1_ := Aside0.mk (Kd.R_drew HO342.out)
      have n2_ := Aside0.mk (Kd.R_drew HO346.out)
      have n3_ := Aside0.mk (Kd.R_drew HO349.out)
      have n4_ := Aside0.mk (Kd.R_drew HO354.out)
      have n5_ := Aside0.mk (Kd.R_drew HO357.out)
      have n6_ := Aside0.mk (Kd.R_drew HO362.out)
      have n7_ := Aside0.mk (Kd.R_drew HO365.out)
      have n8_ := Aside0.mk (Kd.R_drew HO371.out)
      have n9_ := Aside0.mk (Kd.R_drew HO374.out)
      have n10_ := Aside0.mk (blk_drew BK332.out)
      have n11_ := Aside0.mk (blk_drew BK333.out)
      have n12_ := Aside0.mk (blk_drew BK358.out)
      have n13_ := Aside0.mk (blk_drew BK366.out)
      have n14_ := Aside0.mk (below_drew1 HB.out)
      clear HO339
      clear HO342
      clear HO346
      clear HO349
      clear HO354
      clear HO357
      clear HO362
      clear HO365
      clear HO371
      clear HO374
      clear BK332
      clear BK333
      clear BK358
      clear BK366
      clear HB
      have HO339 := n0_
      have HO342 := n1_
      have HO346 := n2_
      have HO349 := n3_
      have HO354 := n4_
      have HO357 := n5_
      have HO362 := n6_
      have HO365 := n7_
      have HO371 := n8_
      have HO374 := n9_
      have BK332 := n10_
      have BK333 := n11_
      have BK358 := n12_
      have BK366 := n13_
      have HB := n14_
      clear n0_ n1_ n2_ n3_ n4_ n5_ n6_ n7_ n8_ n9_ n10_ n11_ n12_ n13_ n14_
      refine start_ (n := 5) (S := fun w' => w'.cell? ⟨gb366, 0, none⟩ = some (.int .i64 t359) ∧ w'.cell? ⟨gb366, 1, none⟩ = some (.slice Ao64 t360.length co64) ∧ w'.cell? ⟨gb366, 2, none⟩ = some (.slice Ao65 t363.length co65) ∧ w'.cell? ⟨gb333, 0, none⟩ = some (.int .i64 a1_0) ∧ w'.cell? ⟨gb333, 1, none⟩ = some (.slice A1_1 l1_1.length c1_1) ∧ w'.cell? ⟨gb333, 2, none⟩ = some (.slice A1_2 l1_2.length c1_2)) (ds := []) #[false, false, false, false, false] (by kernel_rfl) rfl rfl ⟨bc0 BK366, bc1 BK366, bc2 BK366, bc0 BK333, bc1 BK333, bc2 BK333⟩ (fun hHeld => ?_)
      generalize w72.drew = w73 at HO339 HO342 HO346 HO349 HO354 HO357 HO362 HO365 HO371 HO374 BK332 BK333 BK358 BK366 HB hHeld ⊢
      refine take_ (i := 0) (N := some 48) (v := ?_) (a' := ?_) #[true, false, false, false, false] rfl rfl (by kernel_rfl) (fun _ _ _ h => h) (Or.inl ⟨by rfl, ?_⟩) hHeld ?_ ?_
      rotate_left
      ·rintro w' ⟨s0, s1, s2, s3, s4, s5⟩
       go_simp
       with_reducible rfl
      rotate_left
      ·simp only [Act.put, List.setIfInBounds_toArray, List.set_cons_zero, List.set_cons_succ, i64_w, i32_w]
       rfl
      refine take_ (i := 1) (N := some 49) (v := ?_) (a' := ?_) #[true, true, false, false, false] rfl rfl (by kernel_rfl) (fun _ _ _ h => h) (Or.inl ⟨by rfl, ?_⟩) hHeld ?_ ?_
      rotate_left
      ·rintro w' ⟨s0, s1, s2, s3, s4, s5⟩
       go_simp
       with_reducible rfl
      rotate_left
      ·simp only [Act.put, List.setIfInBounds_toArray, List.set_cons_zero, List.set_cons_succ, i64_w, i32_w]
       rfl
      refine one_ (i := 2) (N := some 50) #[true, true, true, false, false] rfl rfl (by kernel_rfl) (by decide) (fun K hK => ?_)
      refine goes_ Try.func29 (by kernel_rfl) rfl #[.agg #[.int .i64 a1_0, .slice A1_1 l1_1.length c1_1, .slice A1_2 l1_2.length c1_2]] (by rfl) rfl rfl zG ?_
      with_reducible refine (laws_toMachine.calls k a1_0 _ _ l1_1 _ _ l1_2 t376 t377 t380 _ ?side1 ?side2 ?side3 ?side4 A31.out).mono ?_
      (case side1 => exact cS HR1_1 HB)
      (case side2 => exact HC1_1.out)
      (case side3 => exact cS HR1_2 HB)
      (case side4 => exact HC1_2.out)
      rintro e w74 ⟨v378, v381, rfl, ho0, ho1, hb⟩
      refine ⟨_, rfl, ?_⟩
      have n0_ := Aside0.mk (Kd.R_elder' (zR HO339) (Kd.R_base ho0) hb)
      have n1_ := Aside0.mk (Kd.R_elder' (zR HO342) (Kd.R_base ho1) hb)
      have n2_ := Aside0.mk (Kd.R_elder' (zR HO346) (Kd.R_base ho0) hb)
      have n3_ := Aside0.mk (Kd.R_elder' (zR HO349) (Kd.R_base ho1) hb)
      have n4_ := Aside0.mk (Kd.R_elder' (zR HO354) (Kd.R_base ho0) hb)
      have n5_ := Aside0.mk (Kd.R_elder' (zR HO357) (Kd.R_base ho1) hb)
      have n6_ := Aside0.mk (Kd.R_elder' (zR HO362) (Kd.R_base ho0) hb)
      have n7_ := Aside0.mk (Kd.R_elder' (zR HO365) (Kd.R_base ho1) hb)
      have n8_ := Aside0.mk (Kd.R_elder' (zR HO371) (Kd.R_base ho0) hb)
      have n9_ := Aside0.mk (Kd.R_elder' (zR HO374) (Kd.R_base ho1) hb)
      have n10_ := Aside0.mk (Kd.R_lower (Kd.R_new' (Kd.R_new' (Kd.R_new' (Kd.R_new' (Kd.R_new' ho0 (Kd.R_lt (zR HO339))) (Kd.R_lt (zR HO346))) (Kd.R_lt (zR HO354))) (Kd.R_lt (zR HO362))) (Kd.R_lt (zR HO371))) (below_size (zB HB)))
      have n11_ := Aside0.mk (Kd.R_lower (Kd.R_new' (Kd.R_new' (Kd.R_new' (Kd.R_new' (Kd.R_new' ho1 (Kd.R_lt (zR HO342))) (Kd.R_lt (zR HO349))) (Kd.R_lt (zR HO357))) (Kd.R_lt (zR HO365))) (Kd.R_lt (zR HO374))) (below_size (zB HB)))
      have n12_ := kB BK332 hb
      have n13_ := kB BK333 hb
      have n14_ := kB BK358 hb
      have n15_ := kB BK366 hb
      have n16_ := bS HB hb
      clear HO339
      clear HO342
      clear HO346
      clear HO349
      clear HO354
      clear HO357
      clear HO362
      clear HO365
      clear HO371
      clear HO374
      clear BK332
      clear BK333
      clear BK358
      clear BK366
      clear HB
      have HO339 := n0_
      have HO342 := n1_
      have HO346 := n2_
      have HO349 := n3_
      have HO354 := n4_
      have HO357 := n5_
      have HO362 := n6_
      have HO365 := n7_
      have HO371 := n8_
      have HO374 := n9_
      have HO379 := n10_
      have HO382 := n11_
      have BK332 := n12_
      have BK333 := n13_
      have BK358 := n14_
      have BK366 := n15_
      have HB := n16_
      clear n0_ n1_ n2_ n3_ n4_ n5_ n6_ n7_ n8_ n9_ n10_ n11_ n12_ n13_ n14_ n15_ n16_
      (try clear hb)
      (try clear hb2)
      (try clear hk)
      (try clear hi)
      (try clear ho0)
      (try clear ho1)
      obtain ⟨Ao75, co75, eo75⟩ := Kd.R_slice HO379.out
      (first | subst eo75 | (injection eo75 with f1_ f2_ f3_; have f4_ := f1_.symm; have f5_ := f3_.symm; clear f1_ f2_ f3_; subst f4_; subst f5_))
      obtain ⟨Ao76, co76, eo76⟩ := Kd.R_slice HO382.out
      (first | subst eo76 | (injection eo76 with f1_ f2_ f3_; have f4_ := f1_.symm; have f5_ := f3_.symm; clear f1_ f2_ f3_; subst f4_; subst f5_))
      refine hK.out _ _ ⟨bc0 BK366, bc1 BK366, bc2 BK366, bc0 BK333, bc1 BK333, bc2 BK333⟩ (fun hHeld => ?_)
      clear hK K
      refine norm_ (a' := ?_) ?_ ?_
      rotate_left
      ·show Act.put _ (some 50) _ = _
       simp only [Act.put, List.setIfInBounds_toArray, List.set_cons_zero, List.set_cons_succ, i64_w, i32_w]
       rfl
      refine one_ (i := 3) (N := some 51) #[true, true, true, true, false] rfl rfl (by kernel_rfl) (by decide) (fun K hK => ?_)
      refine goes_ Try.func32 (by kernel_rfl) rfl #[.agg #[.int .i64 t359, .slice Ao64 t360.length co64, .slice Ao65 t363.length co65], .agg #[.int .i64 t376, .slice Ao75 t377.length co75, .slice Ao76 t380.length co76]] (by rfl) rfl rfl zG ?_
      with_reducible refine (laws_eqMachine.calls k t359 _ _ t360 _ _ t363 t376 _ _ t377 _ _ t380 true _ ?side1 ?side2 ?side3 ?side4 ?side5 ?side6 ?side7 ?side8 A32.out).mono ?_
      (case side1 => repeat (first | exact (Kd.R_reads' HO362.out).2.2 | (with_reducible refine Kd.C_alloc ?_ _) | (with_reducible refine Kd.C_drewN ?_ _) | (with_reducible refine Kd.C_drew ?_)))
      (case side2 => exact (Kd.R_reads' HO362.out).2.1)
      (case side3 => repeat (first | exact (Kd.R_reads' HO365.out).2.2 | (with_reducible refine Kd.C_alloc ?_ _) | (with_reducible refine Kd.C_drewN ?_ _) | (with_reducible refine Kd.C_drew ?_)))
      (case side4 => exact (Kd.R_reads' HO365.out).2.1)
      (case side5 => repeat (first | exact (Kd.R_reads' HO379.out).2.2 | (with_reducible refine Kd.C_alloc ?_ _) | (with_reducible refine Kd.C_drewN ?_ _) | (with_reducible refine Kd.C_drew ?_)))
      (case side6 => exact (Kd.R_reads' HO379.out).2.1)
      (case side7 => repeat (first | exact (Kd.R_reads' HO382.out).2.2 | (with_reducible refine Kd.C_alloc ?_ _) | (with_reducible refine Kd.C_drewN ?_ _) | (with_reducible refine Kd.C_drew ?_)))
      (case side8 => exact (Kd.R_reads' HO382.out).2.1)
      rintro e w77 ⟨rfl, hb⟩
      refine ⟨_, rfl, ?_⟩
      have n0_ := Aside0.mk (Kd.R_below (zR HO339) hb)
      have n1_ := Aside0.mk (Kd.R_below (zR HO342) hb)
      have n2_ := Aside0.mk (Kd.R_below (zR HO346) hb)
      have n3_ := Aside0.mk (Kd.R_below (zR HO349) hb)
      have n4_ := Aside0.mk (Kd.R_below (zR HO354) hb)
      have n5_ := Aside0.mk (Kd.R_below (zR HO357) hb)
      have n6_ := Aside0.mk (Kd.R_below (zR HO362) hb)
      have n7_ := Aside0.mk (Kd.R_below (zR HO365) hb)
      have n8_ := Aside0.mk (Kd.R_below (zR HO371) hb)
      have n9_ := Aside0.mk (Kd.R_below (zR HO374) hb)
      have n10_ := Aside0.mk (Kd.R_below (zR HO379) hb)
      have n11_ := Aside0.mk (Kd.R_below (zR HO382) hb)
      have n12_ := kB BK332 hb
      have n13_ := kB BK333 hb
      have n14_ := kB BK358 hb
      have n15_ := kB BK366 hb
      have n16_ := bS HB hb
      clear HO339
      clear HO342
      clear HO346
      clear HO349
      clear HO354
      clear HO357
      clear HO362
      clear HO365
      clear HO371
      clear HO374
      clear HO379
      clear HO382
      clear BK332
      clear BK333
      clear BK358
      clear BK366
      clear HB
      have HO339 := n0_
      have HO342 := n1_
      have HO346 := n2_
      have HO349 := n3_
      have HO354 := n4_
      have HO357 := n5_
      have HO362 := n6_
      have HO365 := n7_
      have HO371 := n8_
      have HO374 := n9_
      have HO379 := n10_
      have HO382 := n11_
      have BK332 := n12_
      have BK333 := n13_
      have BK358 := n14_
      have BK366 := n15_
      have HB := n16_
      clear n0_ n1_ n2_ n3_ n4_ n5_ n6_ n7_ n8_ n9_ n10_ n11_ n12_ n13_ n14_ n15_ n16_
      (try clear hb)
      (try clear hb2)
      (try clear hk)
      (try clear hi)
      refine hK.out _ _ ⟨bc0 BK366, bc1 BK366, bc2 BK366, bc0 BK333, bc1 BK333, bc2 BK333⟩ (fun hHeld => ?_)
      clear hK K
      refine norm_ (a' := ?_) ?_ ?_
      rotate_left
      ·show Act.put _ (some 51) _ = _
       simp only [Act.put, List.setIfInBounds_toArray, List.set_cons_zero, List.set_cons_succ, i64_w, i32_w]
       rfl
      refine pure_ (i := 4) (N := some 52) (v := ?_) (a' := ?_) #[true, true, true, true, true] rfl rfl (by kernel_rfl) (fun _ _ _ h => h) (Or.inl ⟨by rfl, ?_⟩) ?_ ?_
      rotate_left
      ·intro w'
       go_simp
       with_reducible rfl
      rotate_left
      ·simp only [Act.put, List.setIfInBounds_toArray, List.set_cons_zero, List.set_cons_succ, i64_w, i32_w]
       rfl
      refine done_ (by kernel_rfl) ?_
      try clear hHeld
      try go_wp2
      go_ret
      exact ⟨by first | rfl | (simp [errW_none, errW_some] <;> rfl) | (simp [*, errW_none, errW_some] <;> rfl), by repeat (first | (with_reducible first | exact HB.out | apply below_alloc | apply pw_below_drewN | apply below_drew1 | refine below_set ?_ GE332.out | refine below_set ?_ GE333.out | refine below_set ?_ GE358.out | refine below_set ?_ GE366.out) | exact HB.out)⟩
     ·replace c33 := Bool.eq_false_iff.mpr c33
      subst c33
      have H1 : (some false) = some r := by rw [if_neg (show ¬ (false = true) by decide)] at H; exact H
      clear H
      have H := H1
      clear H1
      exact absurd H (by simp [ht_])
    ·replace c30 := Bool.eq_false_iff.mpr c30
     subst c30
     have H1 : (some false) = some r := by rw [if_neg (show ¬ (false = true) by decide)] at H; exact H
     clear H
     have H := H1
     clear H1
     exact absurd H (by simp [ht_])
   ·rw [if_neg c27] at H
    have c27b0 : (t367 == t350) = false := beq_eq_false_iff_ne.mpr c27
    have c27b1 : (t367 != t350) = true := bne_iff_ne.mpr c27
    exact absurd H (by simp [ht_])
/-- What is known of a value of type 102 that came in. -/
def W102 (x : S102) : Prop := (Lit.int .i64 x.f0).wf = true ∧ True ∧ (Lit.int .i64 x.f2).wf = true ∧ (Lit.int .i64 x.f3).wf = true

/-- The pure statement of laws_FnExactTroubleAt. -/
def laws_FnExactTroubleAt.Pure : Prop := ∀ (a0_0 : Int) (l0_1 : List Bool) (l0_2 : List (S102)) (a1_0 : Int) (l1_1 : List Bool) (l1_2 : List (S102)) (a2 : Int) (a3 : Int), (Lit.int .i64 a0_0).wf = true → l0_1.length ≤ 9223372036854775807 → (∀ x ∈ l0_1, True) → l0_2.length ≤ 9223372036854775807 → (∀ x ∈ l0_2, W102 x) → (Lit.int .i64 a1_0).wf = true → l1_1.length ≤ 9223372036854775807 → (∀ x ∈ l1_1, True) → l1_2.length ≤ 9223372036854775807 → (∀ x ∈ l1_2, W102 x) → (Lit.int .i64 a2).wf = true → (Lit.int .i64 a3).wf = true → ∃ k, laws_FnExactTroubleAt.f k a0_0 l0_1 l0_2 a1_0 l1_1 l1_2 a2 a3 = some true

end Go.Proofs.Ytfnbfconhpppfaa.PFnExactTroubleAt
