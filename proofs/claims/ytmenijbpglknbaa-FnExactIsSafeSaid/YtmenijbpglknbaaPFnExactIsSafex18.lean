-- WRITTEN by pp.py, this session's own wrapper around the print; not trusted: Lean checks it
import Derived.Test.YtmenijbpglknbaaPFnExactIsSafex0
import Derived.Test.YtmenijbpglknbaaPFnExactIsSafex1
import Derived.Test.YtmenijbpglknbaaPFnExactIsSafex2
import Derived.Test.YtmenijbpglknbaaPFnExactIsSafex10
import Derived.Test.YtmenijbpglknbaaPFnExactIsSafex17
namespace Go.Proofs.Ytmenijbpglknbaa.PFnExactIsSafe
open Go.RowKit Go.Proofs.Ytmenijbpglknbaa.Hw Go.Proofs.YtmenijbpglknbaaW.PrintWords Go.Proofs.YtmenijbpglknbaaW.PrintLast Go.Proofs.YtmenijbpglknbaaW.PrintMore
attribute [local go_sem] max2_int min2_int max_two min_two max_three min_three max_four min_four   -- for this text's walks alone
set_option linter.unusedVariables false
set_option linter.unusedSimpArgs false
set_option linter.unusedSectionVars false

/-! ### laws_FnExactIsSafe: function 6 -/
def laws_FnExactIsSafe.f (k : Nat) (a0_0 : Int) (l0_1 : List Bool) (l0_2 : List (S69)) (a1_0 : Int) (l1_1 : List Bool) (l1_2 : List (S69)) : Option (Bool) := (laws_szMachine.f a0_0 l0_1 l0_2 1048576).bind fun t501 => (if t501 < 0 then (some true) else ((laws_szMachine.f a1_0 l1_1 l1_2 t501).bind fun t502 => (if t502 < 0 then (some true) else ((laws_toMachine.f k a0_0 l0_1 l0_2).bind fun bt503 => ((laws_toMachine.f k a1_0 l1_1 l1_2).bind fun bt510 => ((spec_IsSafe.f k bt503.1 bt503.2.1 bt503.2.2 bt510.1 bt510.2.1 bt510.2.2).bind fun t517 => ((laws_toMachine.f k a0_0 l0_1 l0_2).bind fun bt518 => ((laws_toMachine.f k a1_0 l1_1 l1_2).bind fun bt526 => ((impl_IsSafe.f k bt518.1 bt518.2.1 bt518.2.2 bt526.1 bt526.2.1 bt526.2.2).bind fun t534 => (if (t534 != t517) = true then (some false) else ((laws_toMachine.f k a0_0 l0_1 l0_2).bind fun bt535 => ((laws_eqMachine.f k bt518.1 bt518.2.1 bt518.2.2 bt535.1 bt535.2.1 bt535.2.2).bind fun t542 => (if t542 = true then ((laws_toMachine.f k a1_0 l1_1 l1_2).bind fun bt543 => ((laws_eqMachine.f k bt526.1 bt526.2.1 bt526.2.2 bt543.1 bt543.2.1 bt543.2.2).bind fun t550 => (if t550 = true then (some true) else (some false)))) else (some false))))))))))))))
theorem laws_FnExactIsSafe.mono : ∀ a0 a1 a2 a3 a4 a5 k, LeO (laws_FnExactIsSafe.f k a0 a1 a2 a3 a4 a5) (laws_FnExactIsSafe.f (k + 1) a0 a1 a2 a3 a4 a5) := by
 intro a0 a1 a2 a3 a4 a5 k
 unfold laws_FnExactIsSafe.f
 repeat' first
   | (with_reducible exact impl_IsSafe.mono _ _ _ _ _ _ _)
   | (with_reducible exact laws_eqMachine.mono _ _ _ _ _ _ _)
   | (with_reducible exact laws_toMachine.mono _ _ _ _)
   | (with_reducible exact spec_IsSafe.mono _ _ _ _ _ _ _)
   | (with_reducible exact LeO.refl _)
   | (with_reducible exact LeO.none _)
   | (with_reducible refine LeO.ite ?_ ?_)
   | (with_reducible refine LeO.bind ?_ (fun _ => ?_))
   | exact impl_IsSafe.mono _ _ _ _ _ _ _
   | exact laws_eqMachine.mono _ _ _ _ _ _ _
   | exact laws_toMachine.mono _ _ _ _
   | exact spec_IsSafe.mono _ _ _ _ _ _ _
   | exact LeO.none _
   | refine LeO.ite ?_ ?_
   | refine LeO.bind ?_ (fun _ => ?_)
set_option maxHeartbeats 8000000 in
set_option maxRecDepth 100000 in
theorem laws_FnExactIsSafe.calls (k : Nat) (a0_0 : Int) (A0_1 : Option Addr) (c0_1 : Nat) (l0_1 : List Bool) (A0_2 : Option Addr) (c0_2 : Nat) (l0_2 : List (S69)) (a1_0 : Int) (A1_1 : Option Addr) (c1_1 : Nat) (l1_1 : List Bool) (A1_2 : Option Addr) (c1_2 : Nat) (l1_2 : List (S69)) (r : Bool) (w : World) (hr0_1 : Kd.C Kd.bool w A0_1 l0_1.length l0_1) (hc0_1 : l0_1.length ≤ c0_1) (hr0_2 : Kd.C k69 w A0_2 l0_2.length l0_2) (hc0_2 : l0_2.length ≤ c0_2) (hr1_1 : Kd.C Kd.bool w A1_1 l1_1.length l1_1) (hc1_1 : l1_1.length ≤ c1_1) (hr1_2 : Kd.C k69 w A1_2 l1_2.length l1_2) (hc1_2 : l1_2.length ≤ c1_2) (ht_ : r = true) (h : laws_FnExactIsSafe.f k a0_0 l0_1 l0_2 a1_0 l1_1 l1_2 = some r) :
  Calls Try.prog 6 #[.agg #[.int .i64 a0_0, .slice A0_1 l0_1.length c0_1, .slice A0_2 l0_2.length c0_2], .agg #[.int .i64 a1_0, .slice A1_1 l1_1.length c1_1, .slice A1_2 l1_2.length c1_2]] w fun e w' => e = .returned (.bool r) ∧ Below w.heap.size w w' := by
 have hu25 := Try.underlying25
 have hu31 := Try.underlying31
 have HR0_1 := Aside0.mk hr0_1
 have HC0_1 := Aside0.mk hc0_1
 clear hr0_1 hc0_1
 have HR0_2 := Aside0.mk hr0_2
 have HC0_2 := Aside0.mk hc0_2
 clear hr0_2 hc0_2
 have HR1_1 := Aside0.mk hr1_1
 have HC1_1 := Aside0.mk hc1_1
 clear hr1_1 hc1_1
 have HR1_2 := Aside0.mk hr1_2
 have HC1_2 := Aside0.mk hc1_2
 clear hr1_2 hc1_2
 have HB := Aside0.mk (Below.refl w.heap.size w)
 have H : ((laws_szMachine.f a0_0 l0_1 l0_2 1048576).bind fun t501 => (if t501 < 0 then (some true) else ((laws_szMachine.f a1_0 l1_1 l1_2 t501).bind fun t502 => (if t502 < 0 then (some true) else ((laws_toMachine.f k a0_0 l0_1 l0_2).bind fun bt503 => ((laws_toMachine.f k a1_0 l1_1 l1_2).bind fun bt510 => ((spec_IsSafe.f k bt503.1 bt503.2.1 bt503.2.2 bt510.1 bt510.2.1 bt510.2.2).bind fun t517 => ((laws_toMachine.f k a0_0 l0_1 l0_2).bind fun bt518 => ((laws_toMachine.f k a1_0 l1_1 l1_2).bind fun bt526 => ((impl_IsSafe.f k bt518.1 bt518.2.1 bt518.2.2 bt526.1 bt526.2.1 bt526.2.2).bind fun t534 => (if (t534 != t517) = true then (some false) else ((laws_toMachine.f k a0_0 l0_1 l0_2).bind fun bt535 => ((laws_eqMachine.f k bt518.1 bt518.2.1 bt518.2.2 bt535.1 bt535.2.1 bt535.2.2).bind fun t542 => (if t542 = true then ((laws_toMachine.f k a1_0 l1_1 l1_2).bind fun bt543 => ((laws_eqMachine.f k bt526.1 bt526.2.1 bt526.2.2 bt543.1 bt543.2.1 bt543.2.2).bind fun t550 => (if t550 = true then (some true) else (some false)))) else (some false))))))))))))))) = some r := h
 clear h
 replace H := Option.bind_eq_some_iff.mp H
 obtain ⟨t501, A30, H⟩ := H
 replace H : (if t501 < 0 then (some true) else ((laws_szMachine.f a1_0 l1_1 l1_2 t501).bind fun t502 => (if t502 < 0 then (some true) else ((laws_toMachine.f k a0_0 l0_1 l0_2).bind fun bt503 => ((laws_toMachine.f k a1_0 l1_1 l1_2).bind fun bt510 => ((spec_IsSafe.f k bt503.1 bt503.2.1 bt503.2.2 bt510.1 bt510.2.1 bt510.2.2).bind fun t517 => ((laws_toMachine.f k a0_0 l0_1 l0_2).bind fun bt518 => ((laws_toMachine.f k a1_0 l1_1 l1_2).bind fun bt526 => ((impl_IsSafe.f k bt518.1 bt518.2.1 bt518.2.2 bt526.1 bt526.2.1 bt526.2.2).bind fun t534 => (if (t534 != t517) = true then (some false) else ((laws_toMachine.f k a0_0 l0_1 l0_2).bind fun bt535 => ((laws_eqMachine.f k bt518.1 bt518.2.1 bt518.2.2 bt535.1 bt535.2.1 bt535.2.2).bind fun t542 => (if t542 = true then ((laws_toMachine.f k a1_0 l1_1 l1_2).bind fun bt543 => ((laws_eqMachine.f k bt526.1 bt526.2.1 bt526.2.2 bt543.1 bt543.2.1 bt543.2.2).bind fun t550 => (if t550 = true then (some true) else (some false)))) else (some false)))))))))))))) = some r := H
 have A3 := Aside0.mk A30
 clear A30
 by_cases c4 : t501 < 0
 ·rw [if_pos c4] at H
  have c4b0 : decide (t501 < 0) = true := decide_eq_true c4
  clear c4
  obtain rfl := Option.some.inj H
  go_enter Try.func6, Try.ntmps6
  go_wp2_with (first | ((with_reducible refine gate_dst (N := 2) rfl ?_); refine box_event ?hg (N := 2) ?hd (cs := #[.int .i64 a0_0, .slice A0_1 l0_1.length c0_1, .slice A0_2 l0_2.length c0_2]) (t := 25) ?hr ?_; (case hd => rfl); (case hg => rfl); (case hr => first | (go_simp; done) | (go_simp; rfl)); intro gb499 hg w5 hbox hb; have n0_ := bS HB hb; have n1_ := Aside0.mk (hbox); have n2_ := gS HB hg; have n3_ := gS HB hg; clear HB; have HB := n0_; have BK499 := n1_; have GW499 := n2_; have GE499 := n3_; clear n0_ n1_ n2_ n3_; clear hb hbox hg) | ((with_reducible refine gate_dst (N := 3) rfl ?_); refine box_event ?hg (N := 3) ?hd (cs := #[.int .i64 a1_0, .slice A1_1 l1_1.length c1_1, .slice A1_2 l1_2.length c1_2]) (t := 25) ?hr ?_; (case hd => rfl); (case hg => rfl); (case hr => first | (go_simp; done) | (go_simp; rfl)); intro gb500 hg w6 hbox hb; have n0_ := kB BK499 hb; have n1_ := bS HB hb; have n2_ := Aside0.mk (hbox); have n3_ := gS HB hg; have n4_ := gS HB hg; have n5_ := Aside0.mk ((by rw [hg]; exact Nat.ne_of_lt (blk_lt (g := gb499) (o := .cells #[.int .i64 a0_0, .slice A0_1 l0_1.length c0_1, .slice A0_2 l0_2.length c0_2] 25 (0, 0)) (zK BK499)) : gb499 ≠ gb500)); have n6_ := Aside0.mk ((by rw [hg]; exact Nat.ne_of_gt (blk_lt (g := gb499) (o := .cells #[.int .i64 a0_0, .slice A0_1 l0_1.length c0_1, .slice A0_2 l0_2.length c0_2] 25 (0, 0)) (zK BK499)) : gb500 ≠ gb499)); clear BK499; clear HB; have BK499 := n0_; have HB := n1_; have BK500 := n2_; have GW500 := n3_; have GE500 := n4_; have NB499_500 := n5_; have NB500_499 := n6_; clear n0_ n1_ n2_ n3_ n4_ n5_ n6_; clear hb hbox hg; have hnb7 := NB499_500.out; have hnc7 := NB500_499.out; have hcz8_0 := bc0 BK499; have hcz8_1 := bc1 BK499; have hcz8_2 := bc2 BK499; have hfz8_0 := bf BK499 0; have hfz8_1 := bf BK499 1; have hfz8_2 := bf BK499 2) | ((with_reducible refine gate_callee (f := 9) rfl ?_); refine goesL_ (some 12) rfl rfl Try.func9 (by kernel_rfl) rfl #[.agg #[.int .i64 a0_0, .slice A0_1 l0_1.length c0_1, .slice A0_2 l0_2.length c0_2], .int .i64 1048576] rfl zG ?_; (with_reducible refine (laws_szMachine.calls a0_0 _ _ l0_1 _ _ l0_2 1048576 t501 _ ?side1 ?side2 ?side3 ?side4 A3.out).mono ?_); (case side1 => exact cS HR0_1 HB); (case side2 => exact HC0_1.out); (case side3 => exact cS HR0_2 HB); (case side4 => exact HC0_2.out); rintro e w9 ⟨rfl, hb⟩; refine ⟨_, rfl, ?_⟩; have n0_ := kB BK499 hb; have n1_ := kB BK500 hb; have n2_ := bS HB hb; clear BK499; clear BK500; clear HB; have BK499 := n0_; have BK500 := n1_; have HB := n2_; clear n0_ n1_ n2_; (try clear hb)))
  go_ret
  exact ⟨by first | rfl | (simp [errW_none, errW_some] <;> rfl) | (simp [*, errW_none, errW_some] <;> rfl), by repeat (first | (with_reducible first | exact HB.out | apply below_alloc | apply pw_below_drewN | apply below_drew1 | refine below_set ?_ GE499.out | refine below_set ?_ GE500.out) | exact HB.out)⟩
 ·rw [if_neg c4] at H
  have c4b0 : decide (t501 < 0) = false := decide_eq_false c4
  clear c4
  replace H := Option.bind_eq_some_iff.mp H
  obtain ⟨t502, A100, H⟩ := H
  replace H : (if t502 < 0 then (some true) else ((laws_toMachine.f k a0_0 l0_1 l0_2).bind fun bt503 => ((laws_toMachine.f k a1_0 l1_1 l1_2).bind fun bt510 => ((spec_IsSafe.f k bt503.1 bt503.2.1 bt503.2.2 bt510.1 bt510.2.1 bt510.2.2).bind fun t517 => ((laws_toMachine.f k a0_0 l0_1 l0_2).bind fun bt518 => ((laws_toMachine.f k a1_0 l1_1 l1_2).bind fun bt526 => ((impl_IsSafe.f k bt518.1 bt518.2.1 bt518.2.2 bt526.1 bt526.2.1 bt526.2.2).bind fun t534 => (if (t534 != t517) = true then (some false) else ((laws_toMachine.f k a0_0 l0_1 l0_2).bind fun bt535 => ((laws_eqMachine.f k bt518.1 bt518.2.1 bt518.2.2 bt535.1 bt535.2.1 bt535.2.2).bind fun t542 => (if t542 = true then ((laws_toMachine.f k a1_0 l1_1 l1_2).bind fun bt543 => ((laws_eqMachine.f k bt526.1 bt526.2.1 bt526.2.2 bt543.1 bt543.2.1 bt543.2.2).bind fun t550 => (if t550 = true then (some true) else (some false)))) else (some false)))))))))))) = some r := H
  have A10 := Aside0.mk A100
  clear A100
  by_cases c11 : t502 < 0
  ·rw [if_pos c11] at H
   have c11b0 : decide (t502 < 0) = true := decide_eq_true c11
   clear c11
   obtain rfl := Option.some.inj H
   go_enter Try.func6, Try.ntmps6
   go_wp2_with (first | ((with_reducible refine gate_dst (N := 2) rfl ?_); refine box_event ?hg (N := 2) ?hd (cs := #[.int .i64 a0_0, .slice A0_1 l0_1.length c0_1, .slice A0_2 l0_2.length c0_2]) (t := 25) ?hr ?_; (case hd => rfl); (case hg => rfl); (case hr => first | (go_simp; done) | (go_simp; rfl)); intro gb499 hg w12 hbox hb; have n0_ := bS HB hb; have n1_ := Aside0.mk (hbox); have n2_ := gS HB hg; have n3_ := gS HB hg; clear HB; have HB := n0_; have BK499 := n1_; have GW499 := n2_; have GE499 := n3_; clear n0_ n1_ n2_ n3_; clear hb hbox hg) | ((with_reducible refine gate_dst (N := 3) rfl ?_); refine box_event ?hg (N := 3) ?hd (cs := #[.int .i64 a1_0, .slice A1_1 l1_1.length c1_1, .slice A1_2 l1_2.length c1_2]) (t := 25) ?hr ?_; (case hd => rfl); (case hg => rfl); (case hr => first | (go_simp; done) | (go_simp; rfl)); intro gb500 hg w13 hbox hb; have n0_ := kB BK499 hb; have n1_ := bS HB hb; have n2_ := Aside0.mk (hbox); have n3_ := gS HB hg; have n4_ := gS HB hg; have n5_ := Aside0.mk ((by rw [hg]; exact Nat.ne_of_lt (blk_lt (g := gb499) (o := .cells #[.int .i64 a0_0, .slice A0_1 l0_1.length c0_1, .slice A0_2 l0_2.length c0_2] 25 (0, 0)) (zK BK499)) : gb499 ≠ gb500)); have n6_ := Aside0.mk ((by rw [hg]; exact Nat.ne_of_gt (blk_lt (g := gb499) (o := .cells #[.int .i64 a0_0, .slice A0_1 l0_1.length c0_1, .slice A0_2 l0_2.length c0_2] 25 (0, 0)) (zK BK499)) : gb500 ≠ gb499)); clear BK499; clear HB; have BK499 := n0_; have HB := n1_; have BK500 := n2_; have GW500 := n3_; have GE500 := n4_; have NB499_500 := n5_; have NB500_499 := n6_; clear n0_ n1_ n2_ n3_ n4_ n5_ n6_; clear hb hbox hg; have hnb14 := NB499_500.out; have hnc14 := NB500_499.out; have hcz15_0 := bc0 BK499; have hcz15_1 := bc1 BK499; have hcz15_2 := bc2 BK499; have hfz15_0 := bf BK499 0; have hfz15_1 := bf BK499 1; have hfz15_2 := bf BK499 2) | ((with_reducible refine gate_callee (f := 9) rfl ?_); refine goesL_ (some 12) rfl rfl Try.func9 (by kernel_rfl) rfl #[.agg #[.int .i64 a0_0, .slice A0_1 l0_1.length c0_1, .slice A0_2 l0_2.length c0_2], .int .i64 1048576] rfl zG ?_; (with_reducible refine (laws_szMachine.calls a0_0 _ _ l0_1 _ _ l0_2 1048576 t501 _ ?side1 ?side2 ?side3 ?side4 A3.out).mono ?_); (case side1 => exact cS HR0_1 HB); (case side2 => exact HC0_1.out); (case side3 => exact cS HR0_2 HB); (case side4 => exact HC0_2.out); rintro e w16 ⟨rfl, hb⟩; refine ⟨_, rfl, ?_⟩; have n0_ := kB BK499 hb; have n1_ := kB BK500 hb; have n2_ := bS HB hb; clear BK499; clear BK500; clear HB; have BK499 := n0_; have BK500 := n1_; have HB := n2_; clear n0_ n1_ n2_; (try clear hb); have hcz17_0 := bc0 BK500; have hcz17_1 := bc1 BK500; have hcz17_2 := bc2 BK500; have hfz17_0 := bf BK500 0; have hfz17_1 := bf BK500 1; have hfz17_2 := bf BK500 2) | ((with_reducible refine gate_callee (f := 9) rfl ?_); refine goesL_ (some 17) rfl rfl Try.func9 (by kernel_rfl) rfl #[.agg #[.int .i64 a1_0, .slice A1_1 l1_1.length c1_1, .slice A1_2 l1_2.length c1_2], .int .i64 t501] rfl zG ?_; (with_reducible refine (laws_szMachine.calls a1_0 _ _ l1_1 _ _ l1_2 t501 t502 _ ?side1 ?side2 ?side3 ?side4 A10.out).mono ?_); (case side1 => exact cS HR1_1 HB); (case side2 => exact HC1_1.out); (case side3 => exact cS HR1_2 HB); (case side4 => exact HC1_2.out); rintro e w18 ⟨rfl, hb⟩; refine ⟨_, rfl, ?_⟩; have n0_ := kB BK499 hb; have n1_ := kB BK500 hb; have n2_ := bS HB hb; clear BK499; clear BK500; clear HB; have BK499 := n0_; have BK500 := n1_; have HB := n2_; clear n0_ n1_ n2_; (try clear hb)))
   go_ret
   exact ⟨by first | rfl | (simp [errW_none, errW_some] <;> rfl) | (simp [*, errW_none, errW_some] <;> rfl), by repeat (first | (with_reducible first | exact HB.out | apply below_alloc | apply pw_below_drewN | apply below_drew1 | refine below_set ?_ GE499.out | refine below_set ?_ GE500.out) | exact HB.out)⟩
  ·rw [if_neg c11] at H
   have c11b0 : decide (t502 < 0) = false := decide_eq_false c11
   clear c11
   replace H := Option.bind_eq_some_iff.mp H
   obtain ⟨⟨t503, t504, t507⟩, A190, H⟩ := H
   replace H : ((laws_toMachine.f k a1_0 l1_1 l1_2).bind fun bt510 => ((spec_IsSafe.f k t503 t504 t507 bt510.1 bt510.2.1 bt510.2.2).bind fun t517 => ((laws_toMachine.f k a0_0 l0_1 l0_2).bind fun bt518 => ((laws_toMachine.f k a1_0 l1_1 l1_2).bind fun bt526 => ((impl_IsSafe.f k bt518.1 bt518.2.1 bt518.2.2 bt526.1 bt526.2.1 bt526.2.2).bind fun t534 => (if (t534 != t517) = true then (some false) else ((laws_toMachine.f k a0_0 l0_1 l0_2).bind fun bt535 => ((laws_eqMachine.f k bt518.1 bt518.2.1 bt518.2.2 bt535.1 bt535.2.1 bt535.2.2).bind fun t542 => (if t542 = true then ((laws_toMachine.f k a1_0 l1_1 l1_2).bind fun bt543 => ((laws_eqMachine.f k bt526.1 bt526.2.1 bt526.2.2 bt543.1 bt543.2.1 bt543.2.2).bind fun t550 => (if t550 = true then (some true) else (some false)))) else (some false)))))))))) = some r := H
   have A19 := Aside0.mk A190
   clear A190
   replace H := Option.bind_eq_some_iff.mp H
   obtain ⟨⟨t510, t511, t514⟩, A200, H⟩ := H
   replace H : ((spec_IsSafe.f k t503 t504 t507 t510 t511 t514).bind fun t517 => ((laws_toMachine.f k a0_0 l0_1 l0_2).bind fun bt518 => ((laws_toMachine.f k a1_0 l1_1 l1_2).bind fun bt526 => ((impl_IsSafe.f k bt518.1 bt518.2.1 bt518.2.2 bt526.1 bt526.2.1 bt526.2.2).bind fun t534 => (if (t534 != t517) = true then (some false) else ((laws_toMachine.f k a0_0 l0_1 l0_2).bind fun bt535 => ((laws_eqMachine.f k bt518.1 bt518.2.1 bt518.2.2 bt535.1 bt535.2.1 bt535.2.2).bind fun t542 => (if t542 = true then ((laws_toMachine.f k a1_0 l1_1 l1_2).bind fun bt543 => ((laws_eqMachine.f k bt526.1 bt526.2.1 bt526.2.2 bt543.1 bt543.2.1 bt543.2.2).bind fun t550 => (if t550 = true then (some true) else (some false)))) else (some false))))))))) = some r := H
   have A20 := Aside0.mk A200
   clear A200
   replace H := Option.bind_eq_some_iff.mp H
   obtain ⟨t517, A210, H⟩ := H
   replace H : ((laws_toMachine.f k a0_0 l0_1 l0_2).bind fun bt518 => ((laws_toMachine.f k a1_0 l1_1 l1_2).bind fun bt526 => ((impl_IsSafe.f k bt518.1 bt518.2.1 bt518.2.2 bt526.1 bt526.2.1 bt526.2.2).bind fun t534 => (if (t534 != t517) = true then (some false) else ((laws_toMachine.f k a0_0 l0_1 l0_2).bind fun bt535 => ((laws_eqMachine.f k bt518.1 bt518.2.1 bt518.2.2 bt535.1 bt535.2.1 bt535.2.2).bind fun t542 => (if t542 = true then ((laws_toMachine.f k a1_0 l1_1 l1_2).bind fun bt543 => ((laws_eqMachine.f k bt526.1 bt526.2.1 bt526.2.2 bt543.1 bt543.2.1 bt543.2.2).bind fun t550 => (if t550 = true then (some true) else (some false)))) else (some false)))))))) = some r := H
   have A21 := Aside0.mk A210
   clear A210
   replace H := Option.bind_eq_some_iff.mp H
   obtain ⟨⟨t518, t519, t522⟩, A220, H⟩ := H
   replace H : ((laws_toMachine.f k a1_0 l1_1 l1_2).bind fun bt526 => ((impl_IsSafe.f k t518 t519 t522 bt526.1 bt526.2.1 bt526.2.2).bind fun t534 => (if (t534 != t517) = true then (some false) else ((laws_toMachine.f k a0_0 l0_1 l0_2).bind fun bt535 => ((laws_eqMachine.f k t518 t519 t522 bt535.1 bt535.2.1 bt535.2.2).bind fun t542 => (if t542 = true then ((laws_toMachine.f k a1_0 l1_1 l1_2).bind fun bt543 => ((laws_eqMachine.f k bt526.1 bt526.2.1 bt526.2.2 bt543.1 bt543.2.1 bt543.2.2).bind fun t550 => (if t550 = true then (some true) else (some false)))) else (some false))))))) = some r := H
   have A22 := Aside0.mk A220
   clear A220
   replace H := Option.bind_eq_some_iff.mp H
   obtain ⟨⟨t526, t527, t530⟩, A230, H⟩ := H
   replace H : ((impl_IsSafe.f k t518 t519 t522 t526 t527 t530).bind fun t534 => (if (t534 != t517) = true then (some false) else ((laws_toMachine.f k a0_0 l0_1 l0_2).bind fun bt535 => ((laws_eqMachine.f k t518 t519 t522 bt535.1 bt535.2.1 bt535.2.2).bind fun t542 => (if t542 = true then ((laws_toMachine.f k a1_0 l1_1 l1_2).bind fun bt543 => ((laws_eqMachine.f k t526 t527 t530 bt543.1 bt543.2.1 bt543.2.2).bind fun t550 => (if t550 = true then (some true) else (some false)))) else (some false)))))) = some r := H
   have A23 := Aside0.mk A230
   clear A230
   replace H := Option.bind_eq_some_iff.mp H
   obtain ⟨t534, A240, H⟩ := H
   replace H : (if (t534 != t517) = true then (some false) else ((laws_toMachine.f k a0_0 l0_1 l0_2).bind fun bt535 => ((laws_eqMachine.f k t518 t519 t522 bt535.1 bt535.2.1 bt535.2.2).bind fun t542 => (if t542 = true then ((laws_toMachine.f k a1_0 l1_1 l1_2).bind fun bt543 => ((laws_eqMachine.f k t526 t527 t530 bt543.1 bt543.2.1 bt543.2.2).bind fun t550 => (if t550 = true then (some true) else (some false)))) else (some false))))) = some r := H
   have A24 := Aside0.mk A240
   clear A240
   by_cases c25 : (t534 != t517) = true
   ·rw [if_pos c25] at H
    have c25b0 : (t534 != t517) = true := c25
    (try (have c25b1 : decide (t534 = t517) = false := by simpa using c25))
    (try (have c25b2 : (t534 == t517) = false := by simpa using c25))
    (try (have c25b3 : ¬ (t534 = t517) := by simpa using c25))
    clear c25
    exact absurd H (by simp [ht_])
   ·rw [if_neg c25] at H
    have c25b0 : (t534 != t517) = false := by simpa using c25
    (try (have c25b1 : decide (t534 = t517) = true := by simpa using c25))
    (try (have c25b2 : (t534 == t517) = true := by simpa using c25))
    clear c25
    replace H := Option.bind_eq_some_iff.mp H
    obtain ⟨⟨t535, t536, t539⟩, A260, H⟩ := H
    replace H : ((laws_eqMachine.f k t518 t519 t522 t535 t536 t539).bind fun t542 => (if t542 = true then ((laws_toMachine.f k a1_0 l1_1 l1_2).bind fun bt543 => ((laws_eqMachine.f k t526 t527 t530 bt543.1 bt543.2.1 bt543.2.2).bind fun t550 => (if t550 = true then (some true) else (some false)))) else (some false))) = some r := H
    have A26 := Aside0.mk A260
    clear A260
    replace H := Option.bind_eq_some_iff.mp H
    obtain ⟨t542, A270, H⟩ := H
    replace H : (if t542 = true then ((laws_toMachine.f k a1_0 l1_1 l1_2).bind fun bt543 => ((laws_eqMachine.f k t526 t527 t530 bt543.1 bt543.2.1 bt543.2.2).bind fun t550 => (if t550 = true then (some true) else (some false)))) else (some false)) = some r := H
    have A27 := Aside0.mk A270
    clear A270
    by_cases c28 : t542 = true
    ·subst c28
     have H1 : ((laws_toMachine.f k a1_0 l1_1 l1_2).bind fun bt543 => ((laws_eqMachine.f k t526 t527 t530 bt543.1 bt543.2.1 bt543.2.2).bind fun t550 => (if t550 = true then (some true) else (some false)))) = some r := by rw [if_pos rfl] at H; exact H
     clear H
     have H := H1
     clear H1
     replace H := Option.bind_eq_some_iff.mp H
     obtain ⟨⟨t543, t544, t547⟩, A290, H⟩ := H
     replace H : ((laws_eqMachine.f k t526 t527 t530 t543 t544 t547).bind fun t550 => (if t550 = true then (some true) else (some false))) = some r := H
     have A29 := Aside0.mk A290
     clear A290
     replace H := Option.bind_eq_some_iff.mp H
     obtain ⟨t550, A300, H⟩ := H
     replace H : (if t550 = true then (some true) else (some false)) = some r := H
     have A30 := Aside0.mk A300
     clear A300
     by_cases c31 : t550 = true
     ·subst c31
      have H1 : (some true) = some r := by rw [if_pos rfl] at H; exact H
      clear H
      have H := H1
      clear H1
      obtain rfl := Option.some.inj H
      go_enter Try.func6, Try.ntmps6
      try go_wp2_with (first | ((with_reducible refine gate_dst (N := 2) rfl ?_); refine box_event ?hg (N := 2) ?hd (cs := #[.int .i64 a0_0, .slice A0_1 l0_1.length c0_1, .slice A0_2 l0_2.length c0_2]) (t := 25) ?hr ?_; (case hd => rfl); (case hg => rfl); (case hr => first | (go_simp; done) | (go_simp; rfl)); intro gb499 hg w32 hbox hb; have n0_ := bS HB hb; have n1_ := Aside0.mk (hbox); have n2_ := gS HB hg; have n3_ := gS HB hg; clear HB; have HB := n0_; have BK499 := n1_; have GW499 := n2_; have GE499 := n3_; clear n0_ n1_ n2_ n3_; clear hb hbox hg) | ((with_reducible refine gate_dst (N := 3) rfl ?_); refine box_event ?hg (N := 3) ?hd (cs := #[.int .i64 a1_0, .slice A1_1 l1_1.length c1_1, .slice A1_2 l1_2.length c1_2]) (t := 25) ?hr ?_; (case hd => rfl); (case hg => rfl); (case hr => first | (go_simp; done) | (go_simp; rfl)); intro gb500 hg w33 hbox hb; have n0_ := kB BK499 hb; have n1_ := bS HB hb; have n2_ := Aside0.mk (hbox); have n3_ := gS HB hg; have n4_ := gS HB hg; have n5_ := Aside0.mk ((by rw [hg]; exact Nat.ne_of_lt (blk_lt (g := gb499) (o := .cells #[.int .i64 a0_0, .slice A0_1 l0_1.length c0_1, .slice A0_2 l0_2.length c0_2] 25 (0, 0)) (zK BK499)) : gb499 ≠ gb500)); have n6_ := Aside0.mk ((by rw [hg]; exact Nat.ne_of_gt (blk_lt (g := gb499) (o := .cells #[.int .i64 a0_0, .slice A0_1 l0_1.length c0_1, .slice A0_2 l0_2.length c0_2] 25 (0, 0)) (zK BK499)) : gb500 ≠ gb499)); clear BK499; clear HB; have BK499 := n0_; have HB := n1_; have BK500 := n2_; have GW500 := n3_; have GE500 := n4_; have NB499_500 := n5_; have NB500_499 := n6_; clear n0_ n1_ n2_ n3_ n4_ n5_ n6_; clear hb hbox hg; have hnb34 := NB499_500.out; have hnc34 := NB500_499.out; have hcz35_0 := bc0 BK499; have hcz35_1 := bc1 BK499; have hcz35_2 := bc2 BK499; have hfz35_0 := bf BK499 0; have hfz35_1 := bf BK499 1; have hfz35_2 := bf BK499 2) | ((with_reducible refine gate_callee (f := 9) rfl ?_); refine goesL_ (some 12) rfl rfl Try.func9 (by kernel_rfl) rfl #[.agg #[.int .i64 a0_0, .slice A0_1 l0_1.length c0_1, .slice A0_2 l0_2.length c0_2], .int .i64 1048576] rfl zG ?_; (with_reducible refine (laws_szMachine.calls a0_0 _ _ l0_1 _ _ l0_2 1048576 t501 _ ?side1 ?side2 ?side3 ?side4 A3.out).mono ?_); (case side1 => exact cS HR0_1 HB); (case side2 => exact HC0_1.out); (case side3 => exact cS HR0_2 HB); (case side4 => exact HC0_2.out); rintro e w36 ⟨rfl, hb⟩; refine ⟨_, rfl, ?_⟩; have n0_ := kB BK499 hb; have n1_ := kB BK500 hb; have n2_ := bS HB hb; clear BK499; clear BK500; clear HB; have BK499 := n0_; have BK500 := n1_; have HB := n2_; clear n0_ n1_ n2_; (try clear hb); have hcz37_0 := bc0 BK500; have hcz37_1 := bc1 BK500; have hcz37_2 := bc2 BK500; have hfz37_0 := bf BK500 0; have hfz37_1 := bf BK500 1; have hfz37_2 := bf BK500 2) | ((with_reducible refine gate_callee (f := 9) rfl ?_); refine goesL_ (some 17) rfl rfl Try.func9 (by kernel_rfl) rfl #[.agg #[.int .i64 a1_0, .slice A1_1 l1_1.length c1_1, .slice A1_2 l1_2.length c1_2], .int .i64 t501] rfl zG ?_; (with_reducible refine (laws_szMachine.calls a1_0 _ _ l1_1 _ _ l1_2 t501 t502 _ ?side1 ?side2 ?side3 ?side4 A10.out).mono ?_); (case side1 => exact cS HR1_1 HB); (case side2 => exact HC1_1.out); (case side3 => exact cS HR1_2 HB); (case side4 => exact HC1_2.out); rintro e w38 ⟨rfl, hb⟩; refine ⟨_, rfl, ?_⟩; have n0_ := kB BK499 hb; have n1_ := kB BK500 hb; have n2_ := bS HB hb; clear BK499; clear BK500; clear HB; have BK499 := n0_; have BK500 := n1_; have HB := n2_; clear n0_ n1_ n2_; (try clear hb)))
      have n0_ := Aside0.mk (blk_drew BK499.out)
      have n1_ := Aside0.mk (blk_drew BK500.out)
      have n2_ := Aside0.mk (below_drew1 HB.out)
      clear BK499
      clear BK500
      clear HB
      have BK499 := n0_
      have BK500 := n1_
      have HB := n2_
      clear n0_ n1_ n2_
      refine start_ (n := 6) (S := fun w' => w'.cell? ⟨gb499, 0, none⟩ = some (.int .i64 a0_0) ∧ w'.cell? ⟨gb499, 1, none⟩ = some (.slice A0_1 l0_1.length c0_1) ∧ w'.cell? ⟨gb499, 2, none⟩ = some (.slice A0_2 l0_2.length c0_2) ∧ w'.cell? ⟨gb500, 0, none⟩ = some (.int .i64 a1_0) ∧ w'.cell? ⟨gb500, 1, none⟩ = some (.slice A1_1 l1_1.length c1_1) ∧ w'.cell? ⟨gb500, 2, none⟩ = some (.slice A1_2 l1_2.length c1_2)) (ds := []) (bm 6 0) (by kernel_rfl) rfl (bm0 _) ⟨bc0 BK499, bc1 BK499, bc2 BK499, bc0 BK500, bc1 BK500, bc2 BK500⟩ (fun hHeld => ?_)
      generalize w38.drew = w39 at BK499 BK500 HB hHeld ⊢
      refine take_ (i := 0) (N := some 20) (v := ?_) (a' := ?_) (bm 6 1) rfl rfl (by kernel_rfl) (fun _ _ _ h => h) (Or.inl ⟨by rfl, ?_⟩) hHeld ?_ ?_
      rotate_left
      ·rintro w' ⟨s0, s1, s2, s3, s4, s5⟩
       go_simp
       with_reducible rfl
      rotate_left
      ·simp only [Act.put, List.setIfInBounds_toArray, List.set_cons_zero, List.set_cons_succ, i64_w, i32_w]
       rfl
      refine take_ (i := 2) (N := some 22) (v := ?_) (a' := ?_) (bm 6 5) rfl rfl (by kernel_rfl) (fun _ _ _ h => h) (Or.inl ⟨by rfl, ?_⟩) hHeld ?_ ?_
      rotate_left
      ·rintro w' ⟨s0, s1, s2, s3, s4, s5⟩
       go_simp
       with_reducible rfl
      rotate_left
      ·simp only [Act.put, List.setIfInBounds_toArray, List.set_cons_zero, List.set_cons_succ, i64_w, i32_w]
       rfl
      refine one_ (i := 1) (N := some 21) (bm 6 7) rfl rfl (by kernel_rfl) (by decide) (fun K hK => ?_)
      refine goes_ Try.func11 (by kernel_rfl) rfl #[.agg #[.int .i64 a0_0, .slice A0_1 l0_1.length c0_1, .slice A0_2 l0_2.length c0_2]] (by rfl) rfl rfl zG ?_
      with_reducible refine (laws_toMachine.calls k a0_0 _ _ l0_1 _ _ l0_2 t503 t504 t507 _ ?side1 ?side2 ?side3 ?side4 A19.out).mono ?_
      (case side1 => exact cS HR0_1 HB)
      (case side2 => exact HC0_1.out)
      (case side3 => exact cS HR0_2 HB)
      (case side4 => exact HC0_2.out)
      rintro e w40 ⟨v505, v508, rfl, ho0, ho1, hb⟩
      refine ⟨_, rfl, ?_⟩
      have n0_ := Aside0.mk (Kd.R_lower ho0 (below_size (zB HB)))
      have n1_ := Aside0.mk (Kd.R_lower ho1 (below_size (zB HB)))
      have n2_ := kB BK499 hb
      have n3_ := kB BK500 hb
      have n4_ := bS HB hb
      clear BK499
      clear BK500
      clear HB
      have HO506 := n0_
      have HO509 := n1_
      have BK499 := n2_
      have BK500 := n3_
      have HB := n4_
      clear n0_ n1_ n2_ n3_ n4_
      (try clear hb)
      (try clear hb2)
      (try clear hk)
      (try clear hi)
      (try clear ho0)
      (try clear ho1)
      refine hK.out _ _ ⟨bc0 BK499, bc1 BK499, bc2 BK499, bc0 BK500, bc1 BK500, bc2 BK500⟩ (fun hHeld => ?_)
      clear hK K
      refine norm_ (a' := ?_) ?_ ?_
      rotate_left
      ·show Act.put _ (some 21) _ = _
       simp only [Act.put, List.setIfInBounds_toArray, List.set_cons_zero, List.set_cons_succ, i64_w, i32_w]
       rfl
      refine one_ (i := 3) (N := some 23) (bm 6 15) rfl rfl (by kernel_rfl) (by decide) (fun K hK => ?_)
      refine goes_ Try.func11 (by kernel_rfl) rfl #[.agg #[.int .i64 a1_0, .slice A1_1 l1_1.length c1_1, .slice A1_2 l1_2.length c1_2]] (by rfl) rfl rfl zG ?_
      with_reducible refine (laws_toMachine.calls k a1_0 _ _ l1_1 _ _ l1_2 t510 t511 t514 _ ?side1 ?side2 ?side3 ?side4 A20.out).mono ?_
      (case side1 => exact cS HR1_1 HB)
      (case side2 => exact HC1_1.out)
      (case side3 => exact cS HR1_2 HB)
      (case side4 => exact HC1_2.out)
      rintro e w41 ⟨v512, v515, rfl, ho0, ho1, hb⟩
      refine ⟨_, rfl, ?_⟩
      have n0_ := Aside0.mk (Kd.R_elder' (zR HO506) (Kd.R_base ho0) hb)
      have n1_ := Aside0.mk (Kd.R_elder' (zR HO509) (Kd.R_base ho1) hb)
      have n2_ := Aside0.mk (Kd.R_lower (Kd.R_new' ho0 (Kd.R_lt (zR HO506))) (below_size (zB HB)))
      have n3_ := Aside0.mk (Kd.R_lower (Kd.R_new' ho1 (Kd.R_lt (zR HO509))) (below_size (zB HB)))
      have n4_ := kB BK499 hb
      have n5_ := kB BK500 hb
      have n6_ := bS HB hb
      clear HO506
      clear HO509
      clear BK499
      clear BK500
      clear HB
      have HO506 := n0_
      have HO509 := n1_
      have HO513 := n2_
      have HO516 := n3_
      have BK499 := n4_
      have BK500 := n5_
      have HB := n6_
      clear n0_ n1_ n2_ n3_ n4_ n5_ n6_
      (try clear hb)
      (try clear hb2)
      (try clear hk)
      (try clear hi)
      (try clear ho0)
      (try clear ho1)
      obtain ⟨Ao42, co42, eo42⟩ := Kd.R_slice HO506.out
      (first | subst eo42 | (injection eo42 with f1_ f2_ f3_; have f4_ := f1_.symm; have f5_ := f3_.symm; clear f1_ f2_ f3_; subst f4_; subst f5_))
      obtain ⟨Ao43, co43, eo43⟩ := Kd.R_slice HO509.out
      (first | subst eo43 | (injection eo43 with f1_ f2_ f3_; have f4_ := f1_.symm; have f5_ := f3_.symm; clear f1_ f2_ f3_; subst f4_; subst f5_))
      obtain ⟨Ao44, co44, eo44⟩ := Kd.R_slice HO513.out
      (first | subst eo44 | (injection eo44 with f1_ f2_ f3_; have f4_ := f1_.symm; have f5_ := f3_.symm; clear f1_ f2_ f3_; subst f4_; subst f5_))
      obtain ⟨Ao45, co45, eo45⟩ := Kd.R_slice HO516.out
      (first | subst eo45 | (injection eo45 with f1_ f2_ f3_; have f4_ := f1_.symm; have f5_ := f3_.symm; clear f1_ f2_ f3_; subst f4_; subst f5_))
      refine hK.out _ _ ⟨bc0 BK499, bc1 BK499, bc2 BK499, bc0 BK500, bc1 BK500, bc2 BK500⟩ (fun hHeld => ?_)
      clear hK K
      refine norm_ (a' := ?_) ?_ ?_
      rotate_left
      ·show Act.put _ (some 23) _ = _
       simp only [Act.put, List.setIfInBounds_toArray, List.set_cons_zero, List.set_cons_succ, i64_w, i32_w]
       rfl
      refine one_ (i := 4) (N := some 24) (bm 6 31) rfl rfl (by kernel_rfl) (by decide) (fun K hK => ?_)
      refine goes_ Try.func25 (by kernel_rfl) rfl #[.agg #[.int .i64 t503, .slice Ao42 t504.length co42, .slice Ao43 t507.length co43], .agg #[.int .i64 t510, .slice Ao44 t511.length co44, .slice Ao45 t514.length co45]] (by rfl) rfl rfl zG ?_
      with_reducible refine (spec_IsSafe.calls k t503 _ _ t504 _ _ t507 t510 _ _ t511 _ _ t514 t517 _ ?side1 ?side2 ?side3 ?side4 ?side5 ?side6 ?side7 ?side8 A21.out).mono ?_
      (case side1 => repeat (first | exact (Kd.R_reads' HO506.out).2.2 | (with_reducible refine Kd.C_alloc ?_ _) | (with_reducible refine Kd.C_drewN ?_ _) | (with_reducible refine Kd.C_drew ?_)))
      (case side2 => exact (Kd.R_reads' HO506.out).2.1)
      (case side3 => repeat (first | exact (Kd.R_reads' HO509.out).2.2 | (with_reducible refine Kd.C_alloc ?_ _) | (with_reducible refine Kd.C_drewN ?_ _) | (with_reducible refine Kd.C_drew ?_)))
      (case side4 => exact (Kd.R_reads' HO509.out).2.1)
      (case side5 => repeat (first | exact (Kd.R_reads' HO513.out).2.2 | (with_reducible refine Kd.C_alloc ?_ _) | (with_reducible refine Kd.C_drewN ?_ _) | (with_reducible refine Kd.C_drew ?_)))
      (case side6 => exact (Kd.R_reads' HO513.out).2.1)
      (case side7 => repeat (first | exact (Kd.R_reads' HO516.out).2.2 | (with_reducible refine Kd.C_alloc ?_ _) | (with_reducible refine Kd.C_drewN ?_ _) | (with_reducible refine Kd.C_drew ?_)))
      (case side8 => exact (Kd.R_reads' HO516.out).2.1)
      rintro e w46 ⟨rfl, hb⟩
      refine ⟨_, rfl, ?_⟩
      have n0_ := Aside0.mk (Kd.R_below (zR HO506) hb)
      have n1_ := Aside0.mk (Kd.R_below (zR HO509) hb)
      have n2_ := Aside0.mk (Kd.R_below (zR HO513) hb)
      have n3_ := Aside0.mk (Kd.R_below (zR HO516) hb)
      have n4_ := kB BK499 hb
      have n5_ := kB BK500 hb
      have n6_ := bS HB hb
      clear HO506
      clear HO509
      clear HO513
      clear HO516
      clear BK499
      clear BK500
      clear HB
      have HO506 := n0_
      have HO509 := n1_
      have HO513 := n2_
      have HO516 := n3_
      have BK499 := n4_
      have BK500 := n5_
      have HB := n6_
      clear n0_ n1_ n2_ n3_ n4_ n5_ n6_
      (try clear hb)
      (try clear hb2)
      (try clear hk)
      (try clear hi)
      refine hK.out _ _ ⟨bc0 BK499, bc1 BK499, bc2 BK499, bc0 BK500, bc1 BK500, bc2 BK500⟩ (fun hHeld => ?_)
      clear hK K
      refine norm_ (a' := ?_) ?_ ?_
      rotate_left
      ·show Act.put _ (some 24) _ = _
       simp only [Act.put, List.setIfInBounds_toArray, List.set_cons_zero, List.set_cons_succ, i64_w, i32_w]
       rfl
      refine pure_ (i := 5) (N := some 6) (v := ?_) (a' := ?_) (bm 6 63) rfl rfl (by kernel_rfl) (fun _ _ _ h => h) (Or.inl ⟨by rfl, ?_⟩) ?_ ?_
      rotate_left
      ·intro w'
       go_simp
       with_reducible rfl
      rotate_left
      ·simp only [Act.put, List.setIfInBounds_toArray, List.set_cons_zero, List.set_cons_succ, i64_w, i32_w]
       rfl
      refine done_ (by kernel_rfl) ?_
      try clear hHeld
      have hcz47_0 := bc0 BK499
      have hcz47_1 := bc1 BK499
      have hcz47_2 := bc2 BK499
      have hfz47_0 := bf BK499 0
      have hfz47_1 := bf BK499 1
      have hfz47_2 := bf BK499 2
      try go_wp2_with (first | ((with_reducible refine gate_callee (f := 11) rfl ?_); refine goesL_ (some 26) rfl rfl Try.func11 (by kernel_rfl) rfl #[.agg #[.int .i64 a0_0, .slice A0_1 l0_1.length c0_1, .slice A0_2 l0_2.length c0_2]] rfl zG ?_; (with_reducible refine (laws_toMachine.calls k a0_0 _ _ l0_1 _ _ l0_2 t518 t519 t522 _ ?side1 ?side2 ?side3 ?side4 A22.out).mono ?_); (case side1 => exact cS HR0_1 HB); (case side2 => exact HC0_1.out); (case side3 => exact cS HR0_2 HB); (case side4 => exact HC0_2.out); rintro e w48 ⟨v520, v523, rfl, ho0, ho1, hb⟩; refine ⟨_, rfl, ?_⟩; have n0_ := Aside0.mk (Kd.R_elder' (zR HO506) (Kd.R_base ho0) hb); have n1_ := Aside0.mk (Kd.R_elder' (zR HO509) (Kd.R_base ho1) hb); have n2_ := Aside0.mk (Kd.R_elder' (zR HO513) (Kd.R_base ho0) hb); have n3_ := Aside0.mk (Kd.R_elder' (zR HO516) (Kd.R_base ho1) hb); have n4_ := Aside0.mk (Kd.R_lower (Kd.R_new' (Kd.R_new' ho0 (Kd.R_lt (zR HO506))) (Kd.R_lt (zR HO513))) (below_size (zB HB))); have n5_ := Aside0.mk (Kd.R_lower (Kd.R_new' (Kd.R_new' ho1 (Kd.R_lt (zR HO509))) (Kd.R_lt (zR HO516))) (below_size (zB HB))); have n6_ := kB BK499 hb; have n7_ := kB BK500 hb; have n8_ := bS HB hb; clear HO506; clear HO509; clear HO513; clear HO516; clear BK499; clear BK500; clear HB; have HO506 := n0_; have HO509 := n1_; have HO513 := n2_; have HO516 := n3_; have HO521 := n4_; have HO524 := n5_; have BK499 := n6_; have BK500 := n7_; have HB := n8_; clear n0_ n1_ n2_ n3_ n4_ n5_ n6_ n7_ n8_; (try clear hb); (try clear ho0); (try clear ho1)) | ((with_reducible refine gate_dst (N := 7) rfl ?_); refine box_event ?hg (N := 7) ?hd (cs := #[.int .i64 0, .slice none 0 0, .slice none 0 0]) (t := 31) ?hr ?_; (case hd => rfl); (case hg => rfl); (case hr => first | (go_simp; done) | (go_simp; rfl)); intro gb525 hg w49 hbox hb; have n0_ := Aside0.mk (Kd.R_below (zR HO506) hb); have n1_ := Aside0.mk (Kd.R_below (zR HO509) hb); have n2_ := Aside0.mk (Kd.R_below (zR HO513) hb); have n3_ := Aside0.mk (Kd.R_below (zR HO516) hb); have n4_ := Aside0.mk (Kd.R_below (zR HO521) hb); have n5_ := Aside0.mk (Kd.R_below (zR HO524) hb); have n6_ := kB BK499 hb; have n7_ := kB BK500 hb; have n8_ := bS HB hb; have n9_ := Aside0.mk (hbox); have n10_ := gS HB hg; have n11_ := gS HB hg; have n12_ := Aside0.mk ((by rw [hg]; exact Nat.ne_of_lt (blk_lt (g := gb499) (o := .cells #[.int .i64 a0_0, .slice A0_1 l0_1.length c0_1, .slice A0_2 l0_2.length c0_2] 25 (0, 0)) (zK BK499)) : gb499 ≠ gb525)); have n13_ := Aside0.mk ((by rw [hg]; exact Nat.ne_of_gt (blk_lt (g := gb499) (o := .cells #[.int .i64 a0_0, .slice A0_1 l0_1.length c0_1, .slice A0_2 l0_2.length c0_2] 25 (0, 0)) (zK BK499)) : gb525 ≠ gb499)); have n14_ := Aside0.mk ((by rw [hg]; exact Nat.ne_of_lt (blk_lt (g := gb500) (o := .cells #[.int .i64 a1_0, .slice A1_1 l1_1.length c1_1, .slice A1_2 l1_2.length c1_2] 25 (0, 0)) (zK BK500)) : gb500 ≠ gb525)); have n15_ := Aside0.mk ((by rw [hg]; exact Nat.ne_of_gt (blk_lt (g := gb500) (o := .cells #[.int .i64 a1_0, .slice A1_1 l1_1.length c1_1, .slice A1_2 l1_2.length c1_2] 25 (0, 0)) (zK BK500)) : gb525 ≠ gb500)); clear HO506; clear HO509; clear HO513; clear HO516; clear HO521; clear HO524; clear BK499; clear BK500; clear HB; have HO506 := n0_; have HO509 := n1_; have HO513 := n2_; have HO516 := n3_; have HO521 := n4_; have HO524 := n5_; have BK499 := n6_; have BK500 := n7_; have HB := n8_; have BK525 := n9_; have GW525 := n10_; have GE525 := n11_; have NB499_525 := n12_; have NB525_499 := n13_; have NB500_525 := n14_; have NB525_500 := n15_; clear n0_ n1_ n2_ n3_ n4_ n5_ n6_ n7_ n8_ n9_ n10_ n11_ n12_ n13_ n14_ n15_; clear hb hbox hg; have hnb50 := NB525_499.out; have hnc50 := NB499_525.out; have hnb51 := NB525_500.out; have hnc51 := NB500_525.out; have hcz52_0 := bc0 BK525; have hcz52_1 := bc1 BK525; have hcz52_2 := bc2 BK525; have hfz52_0 := bf BK525 0; have hfz52_1 := bf BK525 1; have hfz52_2 := bf BK525 2; obtain ⟨Ao53, co53, eo53⟩ := Kd.R_slice HO521.out; subst eo53; obtain ⟨Ao54, co54, eo54⟩ := Kd.R_slice HO524.out; subst eo54; have hcz55_0 := bc0 BK500; have hcz55_1 := bc1 BK500; have hcz55_2 := bc2 BK500; have hfz55_0 := bf BK500 0; have hfz55_1 := bf BK500 1; have hfz55_2 := bf BK500 2) | ((with_reducible refine gate_callee (f := 11) rfl ?_); refine goesL_ (some 28) rfl rfl Try.func11 (by kernel_rfl) rfl #[.agg #[.int .i64 a1_0, .slice A1_1 l1_1.length c1_1, .slice A1_2 l1_2.length c1_2]] rfl zG ?_; (with_reducible refine (laws_toMachine.calls k a1_0 _ _ l1_1 _ _ l1_2 t526 t527 t530 _ ?side1 ?side2 ?side3 ?side4 A23.out).mono ?_); (case side1 => exact Kd.C_below HR1_1.out (zB HB)); (case side2 => exact HC1_1.out); (case side3 => exact Kd.C_below HR1_2.out (zB HB)); (case side4 => exact HC1_2.out); rintro e w56 ⟨v528, v531, rfl, ho0, ho1, hb⟩; refine ⟨_, rfl, ?_⟩; have n0_ := Aside0.mk (Kd.R_elder' (by (with_reducible repeat (first | apply Kd.R_alloc | apply Kd.R_drewN | apply Kd.R_drew)); exact (Kd.R_mono (Kd.R_far (p := ⟨gb525, 2, none⟩) (Kd.R_far (p := ⟨gb525, 1, none⟩) (Kd.R_far (p := ⟨gb525, 0, none⟩) (Kd.R_types HO506.out BK525.out (by decide)) (fun _ hk => hk.2) (.int .i64 t518)) (fun _ hk => hk.2) (.slice Ao53 t519.length co53)) (fun _ hk => hk.2) (.slice Ao54 t522.length co54)) (fun _ h_ => h_.1))) (Kd.R_base ho0) hb); have n1_ := Aside0.mk (Kd.R_elder' (by (with_reducible repeat (first | apply Kd.R_alloc | apply Kd.R_drewN | apply Kd.R_drew)); exact (Kd.R_mono (Kd.R_far (p := ⟨gb525, 2, none⟩) (Kd.R_far (p := ⟨gb525, 1, none⟩) (Kd.R_far (p := ⟨gb525, 0, none⟩) (Kd.R_types HO509.out BK525.out (by decide)) (fun _ hk => hk.2) (.int .i64 t518)) (fun _ hk => hk.2) (.slice Ao53 t519.length co53)) (fun _ hk => hk.2) (.slice Ao54 t522.length co54)) (fun _ h_ => h_.1))) (Kd.R_base ho1) hb); have n2_ := Aside0.mk (Kd.R_elder' (by (with_reducible repeat (first | apply Kd.R_alloc | apply Kd.R_drewN | apply Kd.R_drew)); exact (Kd.R_mono (Kd.R_far (p := ⟨gb525, 2, none⟩) (Kd.R_far (p := ⟨gb525, 1, none⟩) (Kd.R_far (p := ⟨gb525, 0, none⟩) (Kd.R_types HO513.out BK525.out (by decide)) (fun _ hk => hk.2) (.int .i64 t518)) (fun _ hk => hk.2) (.slice Ao53 t519.length co53)) (fun _ hk => hk.2) (.slice Ao54 t522.length co54)) (fun _ h_ => h_.1))) (Kd.R_base ho0) hb); have n3_ := Aside0.mk (Kd.R_elder' (by (with_reducible repeat (first | apply Kd.R_alloc | apply Kd.R_drewN | apply Kd.R_drew)); exact (Kd.R_mono (Kd.R_far (p := ⟨gb525, 2, none⟩) (Kd.R_far (p := ⟨gb525, 1, none⟩) (Kd.R_far (p := ⟨gb525, 0, none⟩) (Kd.R_types HO516.out BK525.out (by decide)) (fun _ hk => hk.2) (.int .i64 t518)) (fun _ hk => hk.2) (.slice Ao53 t519.length co53)) (fun _ hk => hk.2) (.slice Ao54 t522.length co54)) (fun _ h_ => h_.1))) (Kd.R_base ho1) hb); have n4_ := Aside0.mk (Kd.R_elder' (by (with_reducible repeat (first | apply Kd.R_alloc | apply Kd.R_drewN | apply Kd.R_drew)); exact (Kd.R_mono (Kd.R_far (p := ⟨gb525, 2, none⟩) (Kd.R_far (p := ⟨gb525, 1, none⟩) (Kd.R_far (p := ⟨gb525, 0, none⟩) (Kd.R_types HO521.out BK525.out (by decide)) (fun _ hk => hk.2) (.int .i64 t518)) (fun _ hk => hk.2) (.slice Ao53 t519.length co53)) (fun _ hk => hk.2) (.slice Ao54 t522.length co54)) (fun _ h_ => h_.1))) (Kd.R_base ho0) hb); have n5_ := Aside0.mk (Kd.R_elder' (by (with_reducible repeat (first | apply Kd.R_alloc | apply Kd.R_drewN | apply Kd.R_drew)); exact (Kd.R_mono (Kd.R_far (p := ⟨gb525, 2, none⟩) (Kd.R_far (p := ⟨gb525, 1, none⟩) (Kd.R_far (p := ⟨gb525, 0, none⟩) (Kd.R_types HO524.out BK525.out (by decide)) (fun _ hk => hk.2) (.int .i64 t518)) (fun _ hk => hk.2) (.slice Ao53 t519.length co53)) (fun _ hk => hk.2) (.slice Ao54 t522.length co54)) (fun _ h_ => h_.1))) (Kd.R_base ho1) hb); have n6_ := Aside0.mk (Kd.R_lower (Kd.R_new' (Kd.R_new' (Kd.R_new' ho0 (Kd.R_lt (by (with_reducible repeat (first | apply Kd.R_alloc | apply Kd.R_drewN | apply Kd.R_drew)); exact (Kd.R_mono (Kd.R_far (p := ⟨gb525, 2, none⟩) (Kd.R_far (p := ⟨gb525, 1, none⟩) (Kd.R_far (p := ⟨gb525, 0, none⟩) (Kd.R_types HO506.out BK525.out (by decide)) (fun _ hk => hk.2) (.int .i64 t518)) (fun _ hk => hk.2) (.slice Ao53 t519.length co53)) (fun _ hk => hk.2) (.slice Ao54 t522.length co54)) (fun _ h_ => h_.1))))) (Kd.R_lt (by (with_reducible repeat (first | apply Kd.R_alloc | apply Kd.R_drewN | apply Kd.R_drew)); exact (Kd.R_mono (Kd.R_far (p := ⟨gb525, 2, none⟩) (Kd.R_far (p := ⟨gb525, 1, none⟩) (Kd.R_far (p := ⟨gb525, 0, none⟩) (Kd.R_types HO513.out BK525.out (by decide)) (fun _ hk => hk.2) (.int .i64 t518)) (fun _ hk => hk.2) (.slice Ao53 t519.length co53)) (fun _ hk => hk.2) (.slice Ao54 t522.length co54)) (fun _ h_ => h_.1))))) (Kd.R_lt (by (with_reducible repeat (first | apply Kd.R_alloc | apply Kd.R_drewN | apply Kd.R_drew)); exact (Kd.R_mono (Kd.R_far (p := ⟨gb525, 2, none⟩) (Kd.R_far (p := ⟨gb525, 1, none⟩) (Kd.R_far (p := ⟨gb525, 0, none⟩) (Kd.R_types HO521.out BK525.out (by decide)) (fun _ hk => hk.2) (.int .i64 t518)) (fun _ hk => hk.2) (.slice Ao53 t519.length co53)) (fun _ hk => hk.2) (.slice Ao54 t522.length co54)) (fun _ h_ => h_.1))))) (below_size (zB HB))); have n7_ := Aside0.mk (Kd.R_lower (Kd.R_new' (Kd.R_new' (Kd.R_new' ho1 (Kd.R_lt (by (with_reducible repeat (first | apply Kd.R_alloc | apply Kd.R_drewN | apply Kd.R_drew)); exact (Kd.R_mono (Kd.R_far (p := ⟨gb525, 2, none⟩) (Kd.R_far (p := ⟨gb525, 1, none⟩) (Kd.R_far (p := ⟨gb525, 0, none⟩) (Kd.R_types HO509.out BK525.out (by decide)) (fun _ hk => hk.2) (.int .i64 t518)) (fun _ hk => hk.2) (.slice Ao53 t519.length co53)) (fun _ hk => hk.2) (.slice Ao54 t522.length co54)) (fun _ h_ => h_.1))))) (Kd.R_lt (by (with_reducible repeat (first | apply Kd.R_alloc | apply Kd.R_drewN | apply Kd.R_drew)); exact (Kd.R_mono (Kd.R_far (p := ⟨gb525, 2, none⟩) (Kd.R_far (p := ⟨gb525, 1, none⟩) (Kd.R_far (p := ⟨gb525, 0, none⟩) (Kd.R_types HO516.out BK525.out (by decide)) (fun _ hk => hk.2) (.int .i64 t518)) (fun _ hk => hk.2) (.slice Ao53 t519.length co53)) (fun _ hk => hk.2) (.slice Ao54 t522.length co54)) (fun _ h_ => h_.1))))) (Kd.R_lt (by (with_reducible repeat (first | apply Kd.R_alloc | apply Kd.R_drewN | apply Kd.R_drew)); exact (Kd.R_mono (Kd.R_far (p := ⟨gb525, 2, none⟩) (Kd.R_far (p := ⟨gb525, 1, none⟩) (Kd.R_far (p := ⟨gb525, 0, none⟩) (Kd.R_types HO524.out BK525.out (by decide)) (fun _ hk => hk.2) (.int .i64 t518)) (fun _ hk => hk.2) (.slice Ao53 t519.length co53)) (fun _ hk => hk.2) (.slice Ao54 t522.length co54)) (fun _ h_ => h_.1))))) (below_size (zB HB))); have n8_ := Aside0.mk (blk_below (g := gb499) (o := .cells #[.int .i64 a0_0, .slice A0_1 l0_1.length c0_1, .slice A0_2 l0_2.length c0_2] 25 (0, 0)) (by (with_reducible repeat (first | refine blk_drewN ?_ _ | refine blk_drew ?_ | refine blk_alloc ?_ _)); refine blk_far ?_ NB499_525.out _; (with_reducible repeat (first | refine blk_drewN ?_ _ | refine blk_drew ?_ | refine blk_alloc ?_ _)); refine blk_far ?_ NB499_525.out _; (with_reducible repeat (first | refine blk_drewN ?_ _ | refine blk_drew ?_ | refine blk_alloc ?_ _)); refine blk_far ?_ NB499_525.out _; (with_reducible repeat (first | refine blk_drewN ?_ _ | refine blk_drew ?_ | refine blk_alloc ?_ _)); exact BK499.out) hb); have n9_ := Aside0.mk (blk_below (g := gb500) (o := .cells #[.int .i64 a1_0, .slice A1_1 l1_1.length c1_1, .slice A1_2 l1_2.length c1_2] 25 (0, 0)) (by (with_reducible repeat (first | refine blk_drewN ?_ _ | refine blk_drew ?_ | refine blk_alloc ?_ _)); refine blk_far ?_ NB500_525.out _; (with_reducible repeat (first | refine blk_drewN ?_ _ | refine blk_drew ?_ | refine blk_alloc ?_ _)); refine blk_far ?_ NB500_525.out _; (with_reducible repeat (first | refine blk_drewN ?_ _ | refine blk_drew ?_ | refine blk_alloc ?_ _)); refine blk_far ?_ NB500_525.out _; (with_reducible repeat (first | refine blk_drewN ?_ _ | refine blk_drew ?_ | refine blk_alloc ?_ _)); exact BK500.out) hb); have n10_ := Aside0.mk (blk_below (g := gb525) (o := .cells #[.int .i64 t518, .slice Ao53 t519.length co53, .slice Ao54 t522.length co54] 31 (0, 0)) (by (with_reducible repeat (first | refine blk_drewN ?_ _ | refine blk_drew ?_ | refine blk_alloc ?_ _)); refine blk_put (cs := #[.int .i64 t518, .slice Ao53 t519.length co53, .slice none 0 0]) ?_ 2 _ rfl; (with_reducible repeat (first | refine blk_drewN ?_ _ | refine blk_drew ?_ | refine blk_alloc ?_ _)); refine blk_put (cs := #[.int .i64 t518, .slice none 0 0, .slice none 0 0]) ?_ 1 _ rfl; (with_reducible repeat (first | refine blk_drewN ?_ _ | refine blk_drew ?_ | refine blk_alloc ?_ _)); refine blk_put (cs := #[.int .i64 0, .slice none 0 0, .slice none 0 0]) ?_ 0 _ rfl; (with_reducible repeat (first | refine blk_drewN ?_ _ | refine blk_drew ?_ | refine blk_alloc ?_ _)); exact BK525.out) hb); have n11_ := bS HB hb; clear HO506; clear HO509; clear HO513; clear HO516; clear HO521; clear HO524; clear BK499; clear BK500; clear BK525; clear HB; have HO506 := n0_; have HO509 := n1_; have HO513 := n2_; have HO516 := n3_; have HO521 := n4_; have HO524 := n5_; have HO529 := n6_; have HO532 := n7_; have BK499 := n8_; have BK500 := n9_; have BK525 := n10_; have HB := n11_; clear n0_ n1_ n2_ n3_ n4_ n5_ n6_ n7_ n8_ n9_ n10_ n11_; (try clear hb); (try clear ho0); (try clear ho1)) | ((with_reducible refine gate_dst (N := 8) rfl ?_); refine box_event ?hg (N := 8) ?hd (cs := #[.int .i64 0, .slice none 0 0, .slice none 0 0]) (t := 31) ?hr ?_; (case hd => rfl); (case hg => rfl); (case hr => first | (go_simp; done) | (go_simp; rfl)); intro gb533 hg w57 hbox hb; have n0_ := Aside0.mk (Kd.R_below (zR HO506) hb); have n1_ := Aside0.mk (Kd.R_below (zR HO509) hb); have n2_ := Aside0.mk (Kd.R_below (zR HO513) hb); have n3_ := Aside0.mk (Kd.R_below (zR HO516) hb); have n4_ := Aside0.mk (Kd.R_below (zR HO521) hb); have n5_ := Aside0.mk (Kd.R_below (zR HO524) hb); have n6_ := Aside0.mk (Kd.R_below (zR HO529) hb); have n7_ := Aside0.mk (Kd.R_below (zR HO532) hb); have n8_ := kB BK499 hb; have n9_ := kB BK500 hb; have n10_ := kB BK525 hb; have n11_ := bS HB hb; have n12_ := Aside0.mk (hbox); have n13_ := gS HB hg; have n14_ := gS HB hg; have n15_ := Aside0.mk ((by rw [hg]; exact Nat.ne_of_lt (blk_lt (g := gb499) (o := .cells #[.int .i64 a0_0, .slice A0_1 l0_1.length c0_1, .slice A0_2 l0_2.length c0_2] 25 (0, 0)) (zK BK499)) : gb499 ≠ gb533)); have n16_ := Aside0.mk ((by rw [hg]; exact Nat.ne_of_gt (blk_lt (g := gb499) (o := .cells #[.int .i64 a0_0, .slice A0_1 l0_1.length c0_1, .slice A0_2 l0_2.length c0_2] 25 (0, 0)) (zK BK499)) : gb533 ≠ gb499)); have n17_ := Aside0.mk ((by rw [hg]; exact Nat.ne_of_lt (blk_lt (g := gb500) (o := .cells #[.int .i64 a1_0, .slice A1_1 l1_1.length c1_1, .slice A1_2 l1_2.length c1_2] 25 (0, 0)) (zK BK500)) : gb500 ≠ gb533)); have n18_ := Aside0.mk ((by rw [hg]; exact Nat.ne_of_gt (blk_lt (g := gb500) (o := .cells #[.int .i64 a1_0, .slice A1_1 l1_1.length c1_1, .slice A1_2 l1_2.length c1_2] 25 (0, 0)) (zK BK500)) : gb533 ≠ gb500)); have n19_ := Aside0.mk ((by rw [hg]; exact Nat.ne_of_lt (blk_lt (g := gb525) (o := .cells #[.int .i64 t518, .slice Ao53 t519.length co53, .slice Ao54 t522.length co54] 31 (0, 0)) (zK BK525)) : gb525 ≠ gb533)); have n20_ := Aside0.mk ((by rw [hg]; exact Nat.ne_of_gt (blk_lt (g := gb525) (o := .cells #[.int .i64 t518, .slice Ao53 t519.length co53, .slice Ao54 t522.length co54] 31 (0, 0)) (zK BK525)) : gb533 ≠ gb525)); clear HO506; clear HO509; clear HO513; clear HO516; clear HO521; clear HO524; clear HO529; clear HO532; clear BK499; clear BK500; clear BK525; clear HB; have HO506 := n0_; have HO509 := n1_; have HO513 := n2_; have HO516 := n3_; have HO521 := n4_; have HO524 := n5_; have HO529 := n6_; have HO532 := n7_; have BK499 := n8_; have BK500 := n9_; have BK525 := n10_; have HB := n11_; have BK533 := n12_; have GW533 := n13_; have GE533 := n14_; have NB499_533 := n15_; have NB533_499 := n16_; have NB500_533 := n17_; have NB533_500 := n18_; have NB525_533 := n19_; have NB533_525 := n20_; clear n0_ n1_ n2_ n3_ n4_ n5_ n6_ n7_ n8_ n9_ n10_ n11_ n12_ n13_ n14_ n15_ n16_ n17_ n18_ n19_ n20_; clear hb hbox hg; have hnb58 := NB533_499.out; have hnc58 := NB499_533.out; have hnb59 := NB533_500.out; have hnc59 := NB500_533.out; have hnb60 := NB533_525.out; have hnc60 := NB525_533.out; have hcz61_0 := bc0 BK533; have hcz61_1 := bc1 BK533; have hcz61_2 := bc2 BK533; have hfz61_0 := bf BK533 0; have hfz61_1 := bf BK533 1; have hfz61_2 := bf BK533 2; obtain ⟨Ao62, co62, eo62⟩ := Kd.R_slice HO529.out; subst eo62; obtain ⟨Ao63, co63, eo63⟩ := Kd.R_slice HO532.out; subst eo63; have hcz64_0 := bc0 BK525; have hcz64_1 := bc1 BK525; have hcz64_2 := bc2 BK525; have hfz64_0 := bf BK525 0; have hfz64_1 := bf BK525 1; have hfz64_2 := bf BK525 2) | ((with_reducible refine gate_callee (f := 26) rfl ?_); refine goesL_ (some 31) rfl rfl Try.func26 (by kernel_rfl) rfl #[.agg #[.int .i64 t518, .slice Ao53 t519.length co53, .slice Ao54 t522.length co54], .agg #[.int .i64 t526, .slice Ao62 t527.length co62, .slice Ao63 t530.length co63]] rfl zG ?_; (with_reducible refine (impl_IsSafe.calls k t518 _ _ t519 _ _ t522 t526 _ _ t527 _ _ t530 t534 _ ?side1 ?side2 ?side3 ?side4 ?side5 ?side6 ?side7 ?side8 A24.out).mono ?_); (case side1 => refine (Kd.R_reads' (e := 4) (base := w.heap.size) (ok := fun k_ => (((True ∧ some k_ ≠ (.slice Ao42 t504.length co42 : Value).ownBlock) ∧ some k_ ≠ (.slice Ao44 t511.length co44 : Value).ownBlock) ∧ some k_ ≠ (.slice Ao62 t527.length co62 : Value).ownBlock)) (n := t519.length) (c := co53) ?_).2.2; exact (by (with_reducible repeat (first | apply Kd.R_alloc | apply Kd.R_drewN | apply Kd.R_drew)); exact (Kd.R_mono (Kd.R_far (p := ⟨gb533, 2, none⟩) (Kd.R_far (p := ⟨gb533, 1, none⟩) (Kd.R_far (p := ⟨gb533, 0, none⟩) (Kd.R_types HO521.out BK533.out (by decide)) (fun _ hk => hk.2) (.int .i64 t526)) (fun _ hk => hk.2) (.slice Ao62 t527.length co62)) (fun _ hk => hk.2) (.slice Ao63 t530.length co63)) (fun _ h_ => h_.1)))); (case side2 => exact (Kd.R_reads' HO521.out).2.1); (case side3 => refine (Kd.R_reads' (e := 64) (base := w.heap.size) (ok := fun k_ => (((True ∧ some k_ ≠ (.slice Ao43 t507.length co43 : Value).ownBlock) ∧ some k_ ≠ (.slice Ao45 t514.length co45 : Value).ownBlock) ∧ some k_ ≠ (.slice Ao63 t530.length co63 : Value).ownBlock)) (n := t522.length) (c := co54) ?_).2.2; exact (by (with_reducible repeat (first | apply Kd.R_alloc | apply Kd.R_drewN | apply Kd.R_drew)); exact (Kd.R_mono (Kd.R_far (p := ⟨gb533, 2, none⟩) (Kd.R_far (p := ⟨gb533, 1, none⟩) (Kd.R_far (p := ⟨gb533, 0, none⟩) (Kd.R_types HO524.out BK533.out (by decide)) (fun _ hk => hk.2) (.int .i64 t526)) (fun _ hk => hk.2) (.slice Ao62 t527.length co62)) (fun _ hk => hk.2) (.slice Ao63 t530.length co63)) (fun _ h_ => h_.1)))); (case side4 => exact (Kd.R_reads' HO524.out).2.1); (case side5 => refine (Kd.R_reads' (e := 4) (base := w.heap.size) (ok := fun k_ => (((True ∧ some k_ ≠ (.slice Ao42 t504.length co42 : Value).ownBlock) ∧ some k_ ≠ (.slice Ao44 t511.length co44 : Value).ownBlock) ∧ some k_ ≠ (.slice Ao53 t519.length co53 : Value).ownBlock)) (n := t527.length) (c := co62) ?_).2.2; exact (by (with_reducible repeat (first | apply Kd.R_alloc | apply Kd.R_drewN | apply Kd.R_drew)); exact (Kd.R_mono (Kd.R_far (p := ⟨gb533, 2, none⟩) (Kd.R_far (p := ⟨gb533, 1, none⟩) (Kd.R_far (p := ⟨gb533, 0, none⟩) (Kd.R_types HO529.out BK533.out (by decide)) (fun _ hk => hk.2) (.int .i64 t526)) (fun _ hk => hk.2) (.slice Ao62 t527.length co62)) (fun _ hk => hk.2) (.slice Ao63 t530.length co63)) (fun _ h_ => h_.1)))); (case side6 => exact (Kd.R_reads' HO529.out).2.1); (case side7 => refine (Kd.R_reads' (e := 64) (base := w.heap.size) (ok := fun k_ => (((True ∧ some k_ ≠ (.slice Ao43 t507.length co43 : Value).ownBlock) ∧ some k_ ≠ (.slice Ao45 t514.length co45 : Value).ownBlock) ∧ some k_ ≠ (.slice Ao54 t522.length co54 : Value).ownBlock)) (n := t530.length) (c := co63) ?_).2.2; exact (by (with_reducible repeat (first | apply Kd.R_alloc | apply Kd.R_drewN | apply Kd.R_drew)); exact (Kd.R_mono (Kd.R_far (p := ⟨gb533, 2, none⟩) (Kd.R_far (p := ⟨gb533, 1, none⟩) (Kd.R_far (p := ⟨gb533, 0, none⟩) (Kd.R_types HO532.out BK533.out (by decide)) (fun _ hk => hk.2) (.int .i64 t526)) (fun _ hk => hk.2) (.slice Ao62 t527.length co62)) (fun _ hk => hk.2) (.slice Ao63 t530.length co63)) (fun _ h_ => h_.1)))); (case side8 => exact (Kd.R_reads' HO532.out).2.1); rintro e w65 ⟨rfl, hb⟩; refine ⟨_, rfl, ?_⟩; have n0_ := Aside0.mk (Kd.R_below (by (with_reducible repeat (first | apply Kd.R_alloc | apply Kd.R_drewN | apply Kd.R_drew)); exact (Kd.R_mono (Kd.R_far (p := ⟨gb533, 2, none⟩) (Kd.R_far (p := ⟨gb533, 1, none⟩) (Kd.R_far (p := ⟨gb533, 0, none⟩) (Kd.R_types HO506.out BK533.out (by decide)) (fun _ hk => hk.2) (.int .i64 t526)) (fun _ hk => hk.2) (.slice Ao62 t527.length co62)) (fun _ hk => hk.2) (.slice Ao63 t530.length co63)) (fun _ h_ => h_.1))) hb); have n1_ := Aside0.mk (Kd.R_below (by (with_reducible repeat (first | apply Kd.R_alloc | apply Kd.R_drewN | apply Kd.R_drew)); exact (Kd.R_mono (Kd.R_far (p := ⟨gb533, 2, none⟩) (Kd.R_far (p := ⟨gb533, 1, none⟩) (Kd.R_far (p := ⟨gb533, 0, none⟩) (Kd.R_types HO509.out BK533.out (by decide)) (fun _ hk => hk.2) (.int .i64 t526)) (fun _ hk => hk.2) (.slice Ao62 t527.length co62)) (fun _ hk => hk.2) (.slice Ao63 t530.length co63)) (fun _ h_ => h_.1))) hb); have n2_ := Aside0.mk (Kd.R_below (by (with_reducible repeat (first | apply Kd.R_alloc | apply Kd.R_drewN | apply Kd.R_drew)); exact (Kd.R_mono (Kd.R_far (p := ⟨gb533, 2, none⟩) (Kd.R_far (p := ⟨gb533, 1, none⟩) (Kd.R_far (p := ⟨gb533, 0, none⟩) (Kd.R_types HO513.out BK533.out (by decide)) (fun _ hk => hk.2) (.int .i64 t526)) (fun _ hk => hk.2) (.slice Ao62 t527.length co62)) (fun _ hk => hk.2) (.slice Ao63 t530.length co63)) (fun _ h_ => h_.1))) hb); have n3_ := Aside0.mk (Kd.R_below (by (with_reducible repeat (first | apply Kd.R_alloc | apply Kd.R_drewN | apply Kd.R_drew)); exact (Kd.R_mono (Kd.R_far (p := ⟨gb533, 2, none⟩) (Kd.R_far (p := ⟨gb533, 1, none⟩) (Kd.R_far (p := ⟨gb533, 0, none⟩) (Kd.R_types HO516.out BK533.out (by decide)) (fun _ hk => hk.2) (.int .i64 t526)) (fun _ hk => hk.2) (.slice Ao62 t527.length co62)) (fun _ hk => hk.2) (.slice Ao63 t530.length co63)) (fun _ h_ => h_.1))) hb); have n4_ := Aside0.mk (Kd.R_below (by (with_reducible repeat (first | apply Kd.R_alloc | apply Kd.R_drewN | apply Kd.R_drew)); exact (Kd.R_mono (Kd.R_far (p := ⟨gb533, 2, none⟩) (Kd.R_far (p := ⟨gb533, 1, none⟩) (Kd.R_far (p := ⟨gb533, 0, none⟩) (Kd.R_types HO521.out BK533.out (by decide)) (fun _ hk => hk.2) (.int .i64 t526)) (fun _ hk => hk.2) (.slice Ao62 t527.length co62)) (fun _ hk => hk.2) (.slice Ao63 t530.length co63)) (fun _ h_ => h_.1))) hb); have n5_ := Aside0.mk (Kd.R_below (by (with_reducible repeat (first | apply Kd.R_alloc | apply Kd.R_drewN | apply Kd.R_drew)); exact (Kd.R_mono (Kd.R_far (p := ⟨gb533, 2, none⟩) (Kd.R_far (p := ⟨gb533, 1, none⟩) (Kd.R_far (p := ⟨gb533, 0, none⟩) (Kd.R_types HO524.out BK533.out (by decide)) (fun _ hk => hk.2) (.int .i64 t526)) (fun _ hk => hk.2) (.slice Ao62 t527.length co62)) (fun _ hk => hk.2) (.slice Ao63 t530.length co63)) (fun _ h_ => h_.1))) hb); have n6_ := Aside0.mk (Kd.R_below (by (with_reducible repeat (first | apply Kd.R_alloc | apply Kd.R_drewN | apply Kd.R_drew)); exact (Kd.R_mono (Kd.R_far (p := ⟨gb533, 2, none⟩) (Kd.R_far (p := ⟨gb533, 1, none⟩) (Kd.R_far (p := ⟨gb533, 0, none⟩) (Kd.R_types HO529.out BK533.out (by decide)) (fun _ hk => hk.2) (.int .i64 t526)) (fun _ hk => hk.2) (.slice Ao62 t527.length co62)) (fun _ hk => hk.2) (.slice Ao63 t530.length co63)) (fun _ h_ => h_.1))) hb); have n7_ := Aside0.mk (Kd.R_below (by (with_reducible repeat (first | apply Kd.R_alloc | apply Kd.R_drewN | apply Kd.R_drew)); exact (Kd.R_mono (Kd.R_far (p := ⟨gb533, 2, none⟩) (Kd.R_far (p := ⟨gb533, 1, none⟩) (Kd.R_far (p := ⟨gb533, 0, none⟩) (Kd.R_types HO532.out BK533.out (by decide)) (fun _ hk => hk.2) (.int .i64 t526)) (fun _ hk => hk.2) (.slice Ao62 t527.length co62)) (fun _ hk => hk.2) (.slice Ao63 t530.length co63)) (fun _ h_ => h_.1))) hb); have n8_ := Aside0.mk (blk_below (g := gb499) (o := .cells #[.int .i64 a0_0, .slice A0_1 l0_1.length c0_1, .slice A0_2 l0_2.length c0_2] 25 (0, 0)) (by (with_reducible repeat (first | refine blk_drewN ?_ _ | refine blk_drew ?_ | refine blk_alloc ?_ _)); refine blk_far ?_ NB499_533.out _; (with_reducible repeat (first | refine blk_drewN ?_ _ | refine blk_drew ?_ | refine blk_alloc ?_ _)); refine blk_far ?_ NB499_533.out _; (with_reducible repeat (first | refine blk_drewN ?_ _ | refine blk_drew ?_ | refine blk_alloc ?_ _)); refine blk_far ?_ NB499_533.out _; (with_reducible repeat (first | refine blk_drewN ?_ _ | refine blk_drew ?_ | refine blk_alloc ?_ _)); exact BK499.out) hb); have n9_ := Aside0.mk (blk_below (g := gb500) (o := .cells #[.int .i64 a1_0, .slice A1_1 l1_1.length c1_1, .slice A1_2 l1_2.length c1_2] 25 (0, 0)) (by (with_reducible repeat (first | refine blk_drewN ?_ _ | refine blk_drew ?_ | refine blk_alloc ?_ _)); refine blk_far ?_ NB500_533.out _; (with_reducible repeat (first | refine blk_drewN ?_ _ | refine blk_drew ?_ | refine blk_alloc ?_ _)); refine blk_far ?_ NB500_533.out _; (with_reducible repeat (first | refine blk_drewN ?_ _ | refine blk_drew ?_ | refine blk_alloc ?_ _)); refine blk_far ?_ NB500_533.out _; (with_reducible repeat (first | refine blk_drewN ?_ _ | refine blk_drew ?_ | refine blk_alloc ?_ _)); exact BK500.out) hb); have n10_ := Aside0.mk (blk_below (g := gb525) (o := .cells #[.int .i64 t518, .slice Ao53 t519.length co53, .slice Ao54 t522.length co54] 31 (0, 0)) (by (with_reducible repeat (first | refine blk_drewN ?_ _ | refine blk_drew ?_ | refine blk_alloc ?_ _)); refine blk_far ?_ NB525_533.out _; (with_reducible repeat (first | refine blk_drewN ?_ _ | refine blk_drew ?_ | refine blk_alloc ?_ _)); refine blk_far ?_ NB525_533.out _; (with_reducible repeat (first | refine blk_drewN ?_ _ | refine blk_drew ?_ | refine blk_alloc ?_ _)); refine blk_far ?_ NB525_533.out _; (with_reducible repeat (first | refine blk_drewN ?_ _ | refine blk_drew ?_ | refine blk_alloc ?_ _)); exact BK525.out) hb); have n11_ := Aside0.mk (blk_below (g := gb533) (o := .cells #[.int .i64 t526, .slice Ao62 t527.length co62, .slice Ao63 t530.length co63] 31 (0, 0)) (by (with_reducible repeat (first | refine blk_drewN ?_ _ | refine blk_drew ?_ | refine blk_alloc ?_ _)); refine blk_put (cs := #[.int .i64 t526, .slice Ao62 t527.length co62, .slice none 0 0]) ?_ 2 _ rfl; (with_reducible repeat (first | refine blk_drewN ?_ _ | refine blk_drew ?_ | refine blk_alloc ?_ _)); refine blk_put (cs := #[.int .i64 t526, .slice none 0 0, .slice none 0 0]) ?_ 1 _ rfl; (with_reducible repeat (first | refine blk_drewN ?_ _ | refine blk_drew ?_ | refine blk_alloc ?_ _)); refine blk_put (cs := #[.int .i64 0, .slice none 0 0, .slice none 0 0]) ?_ 0 _ rfl; (with_reducible repeat (first | refine blk_drewN ?_ _ | refine blk_drew ?_ | refine blk_alloc ?_ _)); exact BK533.out) hb); have n12_ := bS HB hb; clear HO506; clear HO509; clear HO513; clear HO516; clear HO521; clear HO524; clear HO529; clear HO532; clear BK499; clear BK500; clear BK525; clear BK533; clear HB; have HO506 := n0_; have HO509 := n1_; have HO513 := n2_; have HO516 := n3_; have HO521 := n4_; have HO524 := n5_; have HO529 := n6_; have HO532 := n7_; have BK499 := n8_; have BK500 := n9_; have BK525 := n10_; have BK533 := n11_; have HB := n12_; clear n0_ n1_ n2_ n3_ n4_ n5_ n6_ n7_ n8_ n9_ n10_ n11_ n12_; (try clear hb)))
      have n0_ := Aside0.mk (Kd.R_drew HO506.out)
      have n1_ := Aside0.mk (Kd.R_drew HO509.out)
      have n2_ := Aside0.mk (Kd.R_drew HO513.out)
      have n3_ := Aside0.mk (Kd.R_drew HO516.out)
      have n4_ := Aside0.mk (Kd.R_drew HO521.out)
      have n5_ := Aside0.mk (Kd.R_drew HO524.out)
      have n6_ := Aside0.mk (Kd.R_drew HO529.out)
      have n7_ := Aside0.mk (Kd.R_drew HO532.out)
      have n8_ := Aside0.mk (blk_drew BK499.out)
      have n9_ := Aside0.mk (blk_drew BK500.out)
      have n10_ := Aside0.mk (blk_drew BK525.out)
      have n11_ := Aside0.mk (blk_drew BK533.out)
      have n12_ := Aside0.mk (below_drew1 HB.out)
      clear HO506
      clear HO509
      clear HO513
      clear HO516
      clear HO521
      clear HO524
      clear HO529
      clear HO532
      clear BK499
      clear BK500
      clear BK525
      clear BK533
      clear HB
      have HO506 := n0_
      have HO509 := n1_
      have HO513 := n2_
      have HO516 := n3_
      have HO521 := n4_
      have HO524 := n5_
      have HO529 := n6_
      have HO532 := n7_
      have BK499 := n8_
      have BK500 := n9_
      have BK525 := n10_
      have BK533 := n11_
      have HB := n12_
      clear n0_ n1_ n2_ n3_ n4_ n5_ n6_ n7_ n8_ n9_ n10_ n11_ n12_
      refine start_ (n := 5) (S := fun w' => w'.cell? ⟨gb525, 0, none⟩ = some (.int .i64 t518) ∧ w'.cell? ⟨gb525, 1, none⟩ = some (.slice Ao53 t519.length co53) ∧ w'.cell? ⟨gb525, 2, none⟩ = some (.slice Ao54 t522.length co54) ∧ w'.cell? ⟨gb499, 0, none⟩ = some (.int .i64 a0_0) ∧ w'.cell? ⟨gb499, 1, none⟩ = some (.slice A0_1 l0_1.length c0_1) ∧ w'.cell? ⟨gb499, 2, none⟩ = some (.slice A0_2 l0_2.length c0_2)) (ds := []) #[false, false, false, false, false] (by kernel_rfl) rfl rfl ⟨bc0 BK525, bc1 BK525, bc2 BK525, bc0 BK499, bc1 BK499, bc2 BK499⟩ (fun hHeld => ?_)
      generalize w65.drew = w66 at HO506 HO509 HO513 HO516 HO521 HO524 HO529 HO532 BK499 BK500 BK525 BK533 HB hHeld ⊢
      refine take_ (i := 0) (N := some 35) (v := ?_) (a' := ?_) #[true, false, false, false, false] rfl rfl (by kernel_rfl) (fun _ _ _ h => h) (Or.inl ⟨by rfl, ?_⟩) hHeld ?_ ?_
      rotate_left
      ·rintro w' ⟨s0, s1, s2, s3, s4, s5⟩
       go_simp
       with_reducible rfl
      rotate_left
      ·simp only [Act.put, List.setIfInBounds_toArray, List.set_cons_zero, List.set_cons_succ, i64_w, i32_w]
       rfl
      refine take_ (i := 1) (N := some 36) (v := ?_) (a' := ?_) #[true, true, false, false, false] rfl rfl (by kernel_rfl) (fun _ _ _ h => h) (Or.inl ⟨by rfl, ?_⟩) hHeld ?_ ?_
      rotate_left
      ·rintro w' ⟨s0, s1, s2, s3, s4, s5⟩
       go_simp
       with_reducible rfl
      rotate_left
      ·simp only [Act.put, List.setIfInBounds_toArray, List.set_cons_zero, List.set_cons_succ, i64_w, i32_w]
       rfl
      refine one_ (i := 2) (N := some 37) #[true, true, true, false, false] rfl rfl (by kernel_rfl) (by decide) (fun K hK => ?_)
      refine goes_ Try.func11 (by kernel_rfl) rfl #[.agg #[.int .i64 a0_0, .slice A0_1 l0_1.length c0_1, .slice A0_2 l0_2.length c0_2]] (by rfl) rfl rfl zG ?_
      with_reducible refine (laws_toMachine.calls k a0_0 _ _ l0_1 _ _ l0_2 t535 t536 t539 _ ?side1 ?side2 ?side3 ?side4 A26.out).mono ?_
      (case side1 => exact cS HR0_1 HB)
      (case side2 => exact HC0_1.out)
      (case side3 => exact cS HR0_2 HB)
      (case side4 => exact HC0_2.out)
      rintro e w67 ⟨v537, v540, rfl, ho0, ho1, hb⟩
      refine ⟨_, rfl, ?_⟩
      have n0_ := Aside0.mk (Kd.R_elder' (zR HO506) (Kd.R_base ho0) hb)
      have n1_ := Aside0.mk (Kd.R_elder' (zR HO509) (Kd.R_base ho1) hb)
      have n2_ := Aside0.mk (Kd.R_elder' (zR HO513) (Kd.R_base ho0) hb)
      have n3_ := Aside0.mk (Kd.R_elder' (zR HO516) (Kd.R_base ho1) hb)
      have n4_ := Aside0.mk (Kd.R_elder' (zR HO521) (Kd.R_base ho0) hb)
      have n5_ := Aside0.mk (Kd.R_elder' (zR HO524) (Kd.R_base ho1) hb)
      have n6_ := Aside0.mk (Kd.R_elder' (zR HO529) (Kd.R_base ho0) hb)
      have n7_ := Aside0.mk (Kd.R_elder' (zR HO532) (Kd.R_base ho1) hb)
      have n8_ := Aside0.mk (Kd.R_lower (Kd.R_new' (Kd.R_new' (Kd.R_new' (Kd.R_new' ho0 (Kd.R_lt (zR HO506))) (Kd.R_lt (zR HO513))) (Kd.R_lt (zR HO521))) (Kd.R_lt (zR HO529))) (below_size (zB HB)))
      have n9_ := Aside0.mk (Kd.R_lower (Kd.R_new' (Kd.R_new' (Kd.R_new' (Kd.R_new' ho1 (Kd.R_lt (zR HO509))) (Kd.R_lt (zR HO516))) (Kd.R_lt (zR HO524))) (Kd.R_lt (zR HO532))) (below_size (zB HB)))
      have n10_ := kB BK499 hb
      have n11_ := kB BK500 hb
      have n12_ := kB BK525 hb
      have n13_ := kB BK533 hb
      have n14_ := bS HB hb
      clear HO506
      clear HO509
      clear HO513
      clear HO516
      clear HO521
      clear HO524
      clear HO529
      clear HO532
      clear BK499
      clear BK500
      clear BK525
      clear BK533
      clear HB
      have HO506 := n0_
      have HO509 := n1_
      have HO513 := n2_
      have HO516 := n3_
      have HO521 := n4_
      have HO524 := n5_
      have HO529 := n6_
      have HO532 := n7_
      have HO538 := n8_
      have HO541 := n9_
      have BK499 := n10_
      have BK500 := n11_
      have BK525 := n12_
      have BK533 := n13_
      have HB := n14_
      clear n0_ n1_ n2_ n3_ n4_ n5_ n6_ n7_ n8_ n9_ n10_ n11_ n12_ n13_ n14_
      (try clear hb)
      (try clear hb2)
      (try clear hk)
      (try clear hi)
      (try clear ho0)
      (try clear ho1)
      obtain ⟨Ao68, co68, eo68⟩ := Kd.R_slice HO538.out
      (first | subst eo68 | (injection eo68 with f1_ f2_ f3_; have f4_ := f1_.symm; have f5_ := f3_.symm; clear f1_ f2_ f3_; subst f4_; subst f5_))
      obtain ⟨Ao69, co69, eo69⟩ := Kd.R_slice HO541.out
      (first | subst eo69 | (injection eo69 with f1_ f2_ f3_; have f4_ := f1_.symm; have f5_ := f3_.symm; clear f1_ f2_ f3_; subst f4_; subst f5_))
      refine hK.out _ _ ⟨bc0 BK525, bc1 BK525, bc2 BK525, bc0 BK499, bc1 BK499, bc2 BK499⟩ (fun hHeld => ?_)
      clear hK K
      refine norm_ (a' := ?_) ?_ ?_
      rotate_left
      ·show Act.put _ (some 37) _ = _
       simp only [Act.put, List.setIfInBounds_toArray, List.set_cons_zero, List.set_cons_succ, i64_w, i32_w]
       rfl
      refine one_ (i := 3) (N := some 38) #[true, true, true, true, false] rfl rfl (by kernel_rfl) (by decide) (fun K hK => ?_)
      refine goes_ Try.func14 (by kernel_rfl) rfl #[.agg #[.int .i64 t518, .slice Ao53 t519.length co53, .slice Ao54 t522.length co54], .agg #[.int .i64 t535, .slice Ao68 t536.length co68, .slice Ao69 t539.length co69]] (by rfl) rfl rfl zG ?_
      with_reducible refine (laws_eqMachine.calls k t518 _ _ t519 _ _ t522 t535 _ _ t536 _ _ t539 true _ ?side1 ?side2 ?side3 ?side4 ?side5 ?side6 ?side7 ?side8 A27.out).mono ?_
      (case side1 => repeat (first | exact (Kd.R_reads' HO521.out).2.2 | (with_reducible refine Kd.C_alloc ?_ _) | (with_reducible refine Kd.C_drewN ?_ _) | (with_reducible refine Kd.C_drew ?_)))
      (case side2 => exact (Kd.R_reads' HO521.out).2.1)
      (case side3 => repeat (first | exact (Kd.R_reads' HO524.out).2.2 | (with_reducible refine Kd.C_alloc ?_ _) | (with_reducible refine Kd.C_drewN ?_ _) | (with_reducible refine Kd.C_drew ?_)))
      (case side4 => exact (Kd.R_reads' HO524.out).2.1)
      (case side5 => repeat (first | exact (Kd.R_reads' HO538.out).2.2 | (with_reducible refine Kd.C_alloc ?_ _) | (with_reducible refine Kd.C_drewN ?_ _) | (with_reducible refine Kd.C_drew ?_)))
      (case side6 => exact (Kd.R_reads' HO538.out).2.1)
      (case side7 => repeat (first | exact (Kd.R_reads' HO541.out).2.2 | (with_reducible refine Kd.C_alloc ?_ _) | (with_reducible refine Kd.C_drewN ?_ _) | (with_reducible refine Kd.C_drew ?_)))
      (case side8 => exact (Kd.R_reads' HO541.out).2.1)
      rintro e w70 ⟨rfl, hb⟩
      refine ⟨_, rfl, ?_⟩
      have n0_ := Aside0.mk (Kd.R_below (zR HO506) hb)
      have n1_ := Aside0.mk (Kd.R_below (zR HO509) hb)
      have n2_ := Aside0.mk (Kd.R_below (zR HO513) hb)
      have n3_ := Aside0.mk (Kd.R_below (zR HO516) hb)
      have n4_ := Aside0.mk (Kd.R_below (zR HO521) hb)
      have n5_ := Aside0.mk (Kd.R_below (zR HO524) hb)
      have n6_ := Aside0.mk (Kd.R_below (zR HO529) hb)
      have n7_ := Aside0.mk (Kd.R_below (zR HO532) hb)
      have n8_ := Aside0.mk (Kd.R_below (zR HO538) hb)
      have n9_ := Aside0.mk (Kd.R_below (zR HO541) hb)
      have n10_ := kB BK499 hb
      have n11_ := kB BK500 hb
      have n12_ := kB BK525 hb
      have n13_ := kB BK533 hb
      have n14_ := bS HB hb
      clear HO506
      clear HO509
      clear HO513
      clear HO516
      clear HO521
      clear HO524
      clear HO529
      clear HO532
      clear HO538
      clear HO541
      clear BK499
      clear BK500
      clear BK525
      clear BK533
      clear HB
      have HO506 := n0_
      have HO509 := n1_
      have HO513 := n2_
      have HO516 := n3_
      have HO521 := n4_
      have HO524 := n5_
      have HO529 := n6_
      have HO532 := n7_
      have HO538 := n8_
      have HO541 := n9_
      have BK499 := n10_
      have BK500 := n11_
      have BK525 := n12_
      have BK533 := n13_
      have HB := n14_
      clear n0_ n1_ n2_ n3_ n4_ n5_ n6_ n7_ n8_ n9_ n10_ n11_ n12_ n13_ n14_
      (try clear hb)
      (try clear hb2)
      (try clear hk)
      (try clear hi)
      refine hK.out _ _ ⟨bc0 BK525, bc1 BK525, bc2 BK525, bc0 BK499, bc1 BK499, bc2 BK499⟩ (fun hHeld => ?_)
      clear hK K
      refine norm_ (a' := ?_) ?_ ?_
      rotate_left
      ·show Act.put _ (some 38) _ = _
       simp only [Act.put, List.setIfInBounds_toArray, List.set_cons_zero, List.set_cons_succ, i64_w, i32_w]
       rfl
      refine pure_ (i := 4) (N := some 39) (v := ?_) (a' := ?_) #[true, true, true, true, true] rfl rfl (by kernel_rfl) (fun _ _ _ h => h) (Or.inl ⟨by rfl, ?_⟩) ?_ ?_
      rotate_left
      ·intro w'
       go_simp
       with_reducible rfl
      rotate_left
      ·simp only [Act.put, List.setIfInBounds_toArray, List.set_cons_zero, List.set_cons_succ, i64_w, i32_w]
       rfl
      refine done_ (by kernel_rfl) ?_
      try clear hHeld
      try go_wp2
      have n0_ := Aside0.mk (Kd.R_drew HO506.out)
      have n1_ := Aside0.mk (Kd.R_drew HO509.out)
      have n2_ := Aside0.mk (Kd.R_drew HO513.out)
      have n3_ := Aside0.mk (Kd.R_drew HO516.out)
      have n4_ := Aside0.mk (Kd.R_drew HO521.out)
      have n5_ := Aside0.mk (Kd.R_drew HO524.out)
      have n6_ := Aside0.mk (Kd.R_drew HO529.out)
      have n7_ := Aside0.mk (Kd.R_drew HO532.out)
      have n8_ := Aside0.mk (Kd.R_drew HO538.out)
      have n9_ := Aside0.mk (Kd.R_drew HO541.out)
      have n10_ := Aside0.mk (blk_drew BK499.out)
      have n11_ := Aside0.mk (blk_drew BK500.out)
      have n12_ := Aside0.mk (blk_drew BK525.out)
      have n13_ := Aside0.mk (blk_drew BK533.out)
      have n14_ := Aside0.mk (below_drew1 HB.out)
      clear HO506
      clear HO509
      clear HO513
      clear HO516
      clear HO521
      clear HO524
      clear HO529
      clear HO532
      clear HO538
      clear HO541
      clear BK499
      clear BK500
      clear BK525
      clear BK533
      clear HB
      have HO506 := n0_
      have HO509 := n1_
      have HO513 := n2_
      have HO516 := n3_
      have HO521 := n4_
      have HO524 := n5_
      have HO529 := n6_
      have HO532 := n7_
      have HO538 := n8_
      have HO541 := n9_
      have BK499 := n10_
      have BK500 := n11_
      have BK525 := n12_
      have BK533 := n13_
      have HB := n14_
      clear n0_ n1_ n2_ n3_ n4_ n5_ n6_ n7_ n8_ n9_ n10_ n11_ n12_ n13_ n14_
      refine start_ (n := 5) (S := fun w' => w'.cell? ⟨gb533, 0, none⟩ = some (.int .i64 t526) ∧ w'.cell? ⟨gb533, 1, none⟩ = some (.slice Ao62 t527.length co62) ∧ w'.cell? ⟨gb533, 2, none⟩ = some (.slice Ao63 t530.length co63) ∧ w'.cell? ⟨gb500, 0, none⟩ = some (.int .i64 a1_0) ∧ w'.cell? ⟨gb500, 1, none⟩ = some (.slice A1_1 l1_1.length c1_1) ∧ w'.cell? ⟨gb500, 2, none⟩ = some (.slice A1_2 l1_2.length c1_2)) (ds := []) #[false, false, false, false, false] (by kernel_rfl) rfl rfl ⟨bc0 BK533, bc1 BK533, bc2 BK533, bc0 BK500, bc1 BK500, bc2 BK500⟩ (fun hHeld => ?_)
      generalize w70.drew = w71 at HO506 HO509 HO513 HO516 HO521 HO524 HO529 HO532 HO538 HO541 BK499 BK500 BK525 BK533 HB hHeld ⊢
      refine take_ (i := 0) (N := some 40) (v := ?_) (a' := ?_) #[true, false, false, false, false] rfl rfl (by kernel_rfl) (fun _ _ _ h => h) (Or.inl ⟨by rfl, ?_⟩) hHeld ?_ ?_
      rotate_left
      ·rintro w' ⟨s0, s1, s2, s3, s4, s5⟩
       go_simp
       with_reducible rfl
      rotate_left
      ·simp only [Act.put, List.setIfInBounds_toArray, List.set_cons_zero, List.set_cons_succ, i64_w, i32_w]
       rfl
      refine take_ (i := 1) (N := some 41) (v := ?_) (a' := ?_) #[true, true, false, false, false] rfl rfl (by kernel_rfl) (fun _ _ _ h => h) (Or.inl ⟨by rfl, ?_⟩) hHeld ?_ ?_
      rotate_left
      ·rintro w' ⟨s0, s1, s2, s3, s4, s5⟩
       go_simp
       with_reducible rfl
      rotate_left
      ·simp only [Act.put, List.setIfInBounds_toArray, List.set_cons_zero, List.set_cons_succ, i64_w, i32_w]
       rfl
      refine one_ (i := 2) (N := some 42) #[true, true, true, false, false] rfl rfl (by kernel_rfl) (by decide) (fun K hK => ?_)
      refine goes_ Try.func11 (by kernel_rfl) rfl #[.agg #[.int .i64 a1_0, .slice A1_1 l1_1.length c1_1, .slice A1_2 l1_2.length c1_2]] (by rfl) rfl rfl zG ?_
      with_reducible refine (laws_toMachine.calls k a1_0 _ _ l1_1 _ _ l1_2 t543 t544 t547 _ ?side1 ?side2 ?side3 ?side4 A29.out).mono ?_
      (case side1 => exact cS HR1_1 HB)
      (case side2 => exact HC1_1.out)
      (case side3 => exact cS HR1_2 HB)
      (case side4 => exact HC1_2.out)
      rintro e w72 ⟨v545, v548, rfl, ho0, ho1, hb⟩
      refine ⟨_, rfl, ?_⟩
      have n0_ := Aside0.mk (Kd.R_elder' (zR HO506) (Kd.R_base ho0) hb)
      have n1_ := Aside0.mk (Kd.R_elder' (zR HO509) (Kd.R_base ho1) hb)
      have n2_ := Aside0.mk (Kd.R_elder' (zR HO513) (Kd.R_base ho0) hb)
      have n3_ := Aside0.mk (Kd.R_elder' (zR HO516) (Kd.R_base ho1) hb)
      have n4_ := Aside0.mk (Kd.R_elder' (zR HO521) (Kd.R_base ho0) hb)
      have n5_ := Aside0.mk (Kd.R_elder' (zR HO524) (Kd.R_base ho1) hb)
      have n6_ := Aside0.mk (Kd.R_elder' (zR HO529) (Kd.R_base ho0) hb)
      have n7_ := Aside0.mk (Kd.R_elder' (zR HO532) (Kd.R_base ho1) hb)
      have n8_ := Aside0.mk (Kd.R_elder' (zR HO538) (Kd.R_base ho0) hb)
      have n9_ := Aside0.mk (Kd.R_elder' (zR HO541) (Kd.R_base ho1) hb)
      have n10_ := Aside0.mk (Kd.R_lower (Kd.R_new' (Kd.R_new' (Kd.R_new' (Kd.R_new' (Kd.R_new' ho0 (Kd.R_lt (zR HO506))) (Kd.R_lt (zR HO513))) (Kd.R_lt (zR HO521))) (Kd.R_lt (zR HO529))) (Kd.R_lt (zR HO538))) (below_size (zB HB)))
      have n11_ := Aside0.mk (Kd.R_lower (Kd.R_new' (Kd.R_new' (Kd.R_new' (Kd.R_new' (Kd.R_new' ho1 (Kd.R_lt (zR HO509))) (Kd.R_lt (zR HO516))) (Kd.R_lt (zR HO524))) (Kd.R_lt (zR HO532))) (Kd.R_lt (zR HO541))) (below_size (zB HB)))
      have n12_ := kB BK499 hb
      have n13_ := kB BK500 hb
      have n14_ := kB BK525 hb
      have n15_ := kB BK533 hb
      have n16_ := bS HB hb
      clear HO506
      clear HO509
      clear HO513
      clear HO516
      clear HO521
      clear HO524
      clear HO529
      clear HO532
      clear HO538
      clear HO541
      clear BK499
      clear BK500
      clear BK525
      clear BK533
      clear HB
      have HO506 := n0_
      have HO509 := n1_
      have HO513 := n2_
      have HO516 := n3_
      have HO521 := n4_
      have HO524 := n5_
      have HO529 := n6_
      have HO532 := n7_
      have HO538 := n8_
      have HO541 := n9_
      have HO546 := n10_
      have HO549 := n11_
      have BK499 := n12_
      have BK500 := n13_
      have BK525 := n14_
      have BK533 := n15_
      have HB := n16_
      clear n0_ n1_ n2_ n3_ n4_ n5_ n6_ n7_ n8_ n9_ n10_ n11_ n12_ n13_ n14_ n15_ n16_
      (try clear hb)
      (try clear hb2)
      (try clear hk)
      (try clear hi)
      (try clear ho0)
      (try clear ho1)
      obtain ⟨Ao73, co73, eo73⟩ := Kd.R_slice HO546.out
      (first | subst eo73 | (injection eo73 with f1_ f2_ f3_; have f4_ := f1_.symm; have f5_ := f3_.symm; clear f1_ f2_ f3_; subst f4_; subst f5_))
      obtain ⟨Ao74, co74, eo74⟩ := Kd.R_slice HO549.out
      (first | subst eo74 | (injection eo74 with f1_ f2_ f3_; have f4_ := f1_.symm; have f5_ := f3_.symm; clear f1_ f2_ f3_; subst f4_; subst f5_))
      refine hK.out _ _ ⟨bc0 BK533, bc1 BK533, bc2 BK533, bc0 BK500, bc1 BK500, bc2 BK500⟩ (fun hHeld => ?_)
      clear hK K
      refine norm_ (a' := ?_) ?_ ?_
      rotate_left
      ·show Act.put _ (some 42) _ = _
       simp only [Act.put, List.setIfInBounds_toArray, List.set_cons_zero, List.set_cons_succ, i64_w, i32_w]
       rfl
      refine one_ (i := 3) (N := some 43) #[true, true, true, true, false] rfl rfl (by kernel_rfl) (by decide) (fun K hK => ?_)
      refine goes_ Try.func14 (by kernel_rfl) rfl #[.agg #[.int .i64 t526, .slice Ao62 t527.length co62, .slice Ao63 t530.length co63], .agg #[.int .i64 t543, .slice Ao73 t544.length co73, .slice Ao74 t547.length co74]] (by rfl) rfl rfl zG ?_
      with_reducible refine (laws_eqMachine.calls k t526 _ _ t527 _ _ t530 t543 _ _ t544 _ _ t547 true _ ?side1 ?side2 ?side3 ?side4 ?side5 ?side6 ?side7 ?side8 A30.out).mono ?_
      (case side1 => repeat (first | exact (Kd.R_reads' HO529.out).2.2 | (with_reducible refine Kd.C_alloc ?_ _) | (with_reducible refine Kd.C_drewN ?_ _) | (with_reducible refine Kd.C_drew ?_)))
      (case side2 => exact (Kd.R_reads' HO529.out).2.1)
      (case side3 => repeat (first | exact (Kd.R_reads' HO532.out).2.2 | (with_reducible refine Kd.C_alloc ?_ _) | (with_reducible refine Kd.C_drewN ?_ _) | (with_reducible refine Kd.C_drew ?_)))
      (case side4 => exact (Kd.R_reads' HO532.out).2.1)
      (case side5 => repeat (first | exact (Kd.R_reads' HO546.out).2.2 | (with_reducible refine Kd.C_alloc ?_ _) | (with_reducible refine Kd.C_drewN ?_ _) | (with_reducible refine Kd.C_drew ?_)))
      (case side6 => exact (Kd.R_reads' HO546.out).2.1)
      (case side7 => repeat (first | exact (Kd.R_reads' HO549.out).2.2 | (with_reducible refine Kd.C_alloc ?_ _) | (with_reducible refine Kd.C_drewN ?_ _) | (with_reducible refine Kd.C_drew ?_)))
      (case side8 => exact (Kd.R_reads' HO549.out).2.1)
      rintro e w75 ⟨rfl, hb⟩
      refine ⟨_, rfl, ?_⟩
      have n0_ := Aside0.mk (Kd.R_below (zR HO506) hb)
      have n1_ := Aside0.mk (Kd.R_below (zR HO509) hb)
      have n2_ := Aside0.mk (Kd.R_below (zR HO513) hb)
      have n3_ := Aside0.mk (Kd.R_below (zR HO516) hb)
      have n4_ := Aside0.mk (Kd.R_below (zR HO521) hb)
      have n5_ := Aside0.mk (Kd.R_below (zR HO524) hb)
      have n6_ := Aside0.mk (Kd.R_below (zR HO529) hb)
      have n7_ := Aside0.mk (Kd.R_below (zR HO532) hb)
      have n8_ := Aside0.mk (Kd.R_below (zR HO538) hb)
      have n9_ := Aside0.mk (Kd.R_below (zR HO541) hb)
      have n10_ := Aside0.mk (Kd.R_below (zR HO546) hb)
      have n11_ := Aside0.mk (Kd.R_below (zR HO549) hb)
      have n12_ := kB BK499 hb
      have n13_ := kB BK500 hb
      have n14_ := kB BK525 hb
      have n15_ := kB BK533 hb
      have n16_ := bS HB hb
      clear HO506
      clear HO509
      clear HO513
      clear HO516
      clear HO521
      clear HO524
      clear HO529
      clear HO532
      clear HO538
      clear HO541
      clear HO546
      clear HO549
      clear BK499
      clear BK500
      clear BK525
      clear BK533
      clear HB
      have HO506 := n0_
      have HO509 := n1_
      have HO513 := n2_
      have HO516 := n3_
      have HO521 := n4_
      have HO524 := n5_
      have HO529 := n6_
      have HO532 := n7_
      have HO538 := n8_
      have HO541 := n9_
      have HO546 := n10_
      have HO549 := n11_
      have BK499 := n12_
      have BK500 := n13_
      have BK525 := n14_
      have BK533 := n15_
      have HB := n16_
      clear n0_ n1_ n2_ n3_ n4_ n5_ n6_ n7_ n8_ n9_ n10_ n11_ n12_ n13_ n14_ n15_ n16_
      (try clear hb)
      (try clear hb2)
      (try clear hk)
      (try clear hi)
      refine hK.out _ _ ⟨bc0 BK533, bc1 BK533, bc2 BK533, bc0 BK500, bc1 BK500, bc2 BK500⟩ (fun hHeld => ?_)
      clear hK K
      refine norm_ (a' := ?_) ?_ ?_
      rotate_left
      ·show Act.put _ (some 43) _ = _
       simp only [Act.put, List.setIfInBounds_toArray, List.set_cons_zero, List.set_cons_succ, i64_w, i32_w]
       rfl
      refine pure_ (i := 4) (N := some 44) (v := ?_) (a' := ?_) #[true, true, true, true, true] rfl rfl (by kernel_rfl) (fun _ _ _ h => h) (Or.inl ⟨by rfl, ?_⟩) ?_ ?_
      rotate_left
      ·intro w'
       go_simp
       with_reducible rfl
      rotate_left
      ·simp only [Act.put, List.setIfInBounds_toArray, List.set_cons_zero, List.set_cons_succ, i64_w, i32_w]
       rfl
      refine done_ (by kernel_rfl) ?_
      try clear hHeld
      try go_wp2
      go_ret
      exact ⟨by first | rfl | (simp [errW_none, errW_some] <;> rfl) | (simp [*, errW_none, errW_some] <;> rfl), by repeat (first | (with_reducible first | exact HB.out | apply below_alloc | apply pw_below_drewN | apply below_drew1 | refine below_set ?_ GE499.out | refine below_set ?_ GE500.out | refine below_set ?_ GE525.out | refine below_set ?_ GE533.out) | exact HB.out)⟩
     ·replace c31 := Bool.eq_false_iff.mpr c31
      subst c31
      have H1 : (some false) = some r := by rw [if_neg (show ¬ (false = true) by decide)] at H; exact H
      clear H
      have H := H1
      clear H1
      exact absurd H (by simp [ht_])
    ·replace c28 := Bool.eq_false_iff.mpr c28
     subst c28
     have H1 : (some false) = some r := by rw [if_neg (show ¬ (false = true) by decide)] at H; exact H
     clear H
     have H := H1
     clear H1
     exact absurd H (by simp [ht_])
/-- What is known of a value of type 69 that came in. -/
def W69 (x : S69) : Prop := (Lit.int .i64 x.f0).wf = true ∧ True ∧ (Lit.int .i64 x.f2).wf = true ∧ (Lit.int .i64 x.f3).wf = true

/-- The pure statement of laws_FnExactIsSafe. -/
def laws_FnExactIsSafe.Pure : Prop := ∀ (a0_0 : Int) (l0_1 : List Bool) (l0_2 : List (S69)) (a1_0 : Int) (l1_1 : List Bool) (l1_2 : List (S69)), (Lit.int .i64 a0_0).wf = true → l0_1.length ≤ 9223372036854775807 → (∀ x ∈ l0_1, True) → l0_2.length ≤ 9223372036854775807 → (∀ x ∈ l0_2, W69 x) → (Lit.int .i64 a1_0).wf = true → l1_1.length ≤ 9223372036854775807 → (∀ x ∈ l1_1, True) → l1_2.length ≤ 9223372036854775807 → (∀ x ∈ l1_2, W69 x) → ∃ k, laws_FnExactIsSafe.f k a0_0 l0_1 l0_2 a1_0 l1_1 l1_2 = some true

end Go.Proofs.Ytmenijbpglknbaa.PFnExactIsSafe
