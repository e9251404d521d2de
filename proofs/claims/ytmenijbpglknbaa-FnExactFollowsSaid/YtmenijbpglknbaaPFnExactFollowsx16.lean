-- WRITTEN by pp.py, this session's own wrapper around the print; not trusted: Lean checks it
import Derived.Test.YtmenijbpglknbaaPFnExactFollowsx0
import Derived.Test.YtmenijbpglknbaaPFnExactFollowsx1
import Derived.Test.YtmenijbpglknbaaPFnExactFollowsx2
import Derived.Test.YtmenijbpglknbaaPFnExactFollowsx8
import Derived.Test.YtmenijbpglknbaaPFnExactFollowsx15
namespace Go.Proofs.Ytmenijbpglknbaa.PFnExactFollows
open Go.RowKit Go.Proofs.Ytmenijbpglknbaa.Hw Go.Proofs.YtmenijbpglknbaaW.PrintWords Go.Proofs.YtmenijbpglknbaaW.PrintLast Go.Proofs.YtmenijbpglknbaaW.PrintMore
attribute [local go_sem] max2_int min2_int max_two min_two max_three min_three max_four min_four   -- for this text's walks alone
set_option linter.unusedVariables false
set_option linter.unusedSimpArgs false
set_option linter.unusedSectionVars false

/-! ### laws_FnExactFollows: function 7 -/
def laws_FnExactFollows.f (k : Nat) (a0_0 : Int) (l0_1 : List Bool) (l0_2 : List (S69)) (a1_0 : Int) (l1_1 : List Bool) (l1_2 : List (S69)) : Option (Bool) := (laws_szMachine.f a0_0 l0_1 l0_2 1048576).bind fun t458 => (if t458 < 0 then (some true) else ((laws_szMachine.f a1_0 l1_1 l1_2 t458).bind fun t459 => (if t459 < 0 then (some true) else ((laws_toMachine.f k a0_0 l0_1 l0_2).bind fun bt460 => ((laws_toMachine.f k a1_0 l1_1 l1_2).bind fun bt467 => ((spec_Follows.f k bt460.1 bt460.2.1 bt460.2.2 bt467.1 bt467.2.1 bt467.2.2).bind fun t474 => ((laws_toMachine.f k a0_0 l0_1 l0_2).bind fun bt475 => ((laws_toMachine.f k a1_0 l1_1 l1_2).bind fun bt483 => ((impl_Follows.f k bt475.1 bt475.2.1 bt475.2.2 bt483.1 bt483.2.1 bt483.2.2).bind fun t491 => (if (t491 != t474) = true then (some false) else ((laws_toMachine.f k a0_0 l0_1 l0_2).bind fun bt492 => ((laws_eqMachine.f k bt475.1 bt475.2.1 bt475.2.2 bt492.1 bt492.2.1 bt492.2.2).bind fun t499 => (if t499 = true then ((laws_toMachine.f k a1_0 l1_1 l1_2).bind fun bt500 => ((laws_eqMachine.f k bt483.1 bt483.2.1 bt483.2.2 bt500.1 bt500.2.1 bt500.2.2).bind fun t507 => (if t507 = true then (some true) else (some false)))) else (some false))))))))))))))
theorem laws_FnExactFollows.mono : ∀ a0 a1 a2 a3 a4 a5 k, LeO (laws_FnExactFollows.f k a0 a1 a2 a3 a4 a5) (laws_FnExactFollows.f (k + 1) a0 a1 a2 a3 a4 a5) := by
 intro a0 a1 a2 a3 a4 a5 k
 unfold laws_FnExactFollows.f
 repeat' first
   | (with_reducible exact impl_Follows.mono _ _ _ _ _ _ _)
   | (with_reducible exact laws_eqMachine.mono _ _ _ _ _ _ _)
   | (with_reducible exact laws_toMachine.mono _ _ _ _)
   | (with_reducible exact spec_Follows.mono _ _ _ _ _ _ _)
   | (with_reducible exact LeO.refl _)
   | (with_reducible exact LeO.none _)
   | (with_reducible refine LeO.ite ?_ ?_)
   | (with_reducible refine LeO.bind ?_ (fun _ => ?_))
   | exact impl_Follows.mono _ _ _ _ _ _ _
   | exact laws_eqMachine.mono _ _ _ _ _ _ _
   | exact laws_toMachine.mono _ _ _ _
   | exact spec_Follows.mono _ _ _ _ _ _ _
   | exact LeO.none _
   | refine LeO.ite ?_ ?_
   | refine LeO.bind ?_ (fun _ => ?_)
set_option maxHeartbeats 8000000 in
set_option maxRecDepth 100000 in
theorem laws_FnExactFollows.calls (k : Nat) (a0_0 : Int) (A0_1 : Option Addr) (c0_1 : Nat) (l0_1 : List Bool) (A0_2 : Option Addr) (c0_2 : Nat) (l0_2 : List (S69)) (a1_0 : Int) (A1_1 : Option Addr) (c1_1 : Nat) (l1_1 : List Bool) (A1_2 : Option Addr) (c1_2 : Nat) (l1_2 : List (S69)) (r : Bool) (w : World) (hr0_1 : Kd.C Kd.bool w A0_1 l0_1.length l0_1) (hc0_1 : l0_1.length ≤ c0_1) (hr0_2 : Kd.C k69 w A0_2 l0_2.length l0_2) (hc0_2 : l0_2.length ≤ c0_2) (hr1_1 : Kd.C Kd.bool w A1_1 l1_1.length l1_1) (hc1_1 : l1_1.length ≤ c1_1) (hr1_2 : Kd.C k69 w A1_2 l1_2.length l1_2) (hc1_2 : l1_2.length ≤ c1_2) (ht_ : r = true) (h : laws_FnExactFollows.f k a0_0 l0_1 l0_2 a1_0 l1_1 l1_2 = some r) :
  Calls Try.prog 7 #[.agg #[.int .i64 a0_0, .slice A0_1 l0_1.length c0_1, .slice A0_2 l0_2.length c0_2], .agg #[.int .i64 a1_0, .slice A1_1 l1_1.length c1_1, .slice A1_2 l1_2.length c1_2]] w fun e w' => e = .returned (.bool r) ∧ Below w.heap.size w w' := by
 have hu25 := Try.underlying25
 have hu31 := Try.underlying31
 have HR0_1 := Aside0.mk hr0_1
 have HC0_1 := Aside0.mk hc0_1
 clear hr0_1 hc0_1
 have HR0_2 := Aside0.mk hr0_2
 have HC0_2 := Aside0.mk hc0_2
 clear hr0_2 hc0_2
 have HR1_1 := Aside0.mk hr1_1
 have HC1_1 := Aside0.mk hc1_1
 clear hr1_1 hc1_1
 have HR1_2 := Aside0.mk hr1_2
 have HC1_2 := Aside0.mk hc1_2
 clear hr1_2 hc1_2
 have HB := Aside0.mk (Below.refl w.heap.size w)
 have H : ((laws_szMachine.f a0_0 l0_1 l0_2 1048576).bind fun t458 => (if t458 < 0 then (some true) else ((laws_szMachine.f a1_0 l1_1 l1_2 t458).bind fun t459 => (if t459 < 0 then (some true) else ((laws_toMachine.f k a0_0 l0_1 l0_2).bind fun bt460 => ((laws_toMachine.f k a1_0 l1_1 l1_2).bind fun bt467 => ((spec_Follows.f k bt460.1 bt460.2.1 bt460.2.2 bt467.1 bt467.2.1 bt467.2.2).bind fun t474 => ((laws_toMachine.f k a0_0 l0_1 l0_2).bind fun bt475 => ((laws_toMachine.f k a1_0 l1_1 l1_2).bind fun bt483 => ((impl_Follows.f k bt475.1 bt475.2.1 bt475.2.2 bt483.1 bt483.2.1 bt483.2.2).bind fun t491 => (if (t491 != t474) = true then (some false) else ((laws_toMachine.f k a0_0 l0_1 l0_2).bind fun bt492 => ((laws_eqMachine.f k bt475.1 bt475.2.1 bt475.2.2 bt492.1 bt492.2.1 bt492.2.2).bind fun t499 => (if t499 = true then ((laws_toMachine.f k a1_0 l1_1 l1_2).bind fun bt500 => ((laws_eqMachine.f k bt483.1 bt483.2.1 bt483.2.2 bt500.1 bt500.2.1 bt500.2.2).bind fun t507 => (if t507 = true then (some true) else (some false)))) else (some false))))))))))))))) = some r := h
 clear h
 replace H := Option.bind_eq_some_iff.mp H
 obtain ⟨t458, A30, H⟩ := H
 replace H : (if t458 < 0 then (some true) else ((laws_szMachine.f a1_0 l1_1 l1_2 t458).bind fun t459 => (if t459 < 0 then (some true) else ((laws_toMachine.f k a0_0 l0_1 l0_2).bind fun bt460 => ((laws_toMachine.f k a1_0 l1_1 l1_2).bind fun bt467 => ((spec_Follows.f k bt460.1 bt460.2.1 bt460.2.2 bt467.1 bt467.2.1 bt467.2.2).bind fun t474 => ((laws_toMachine.f k a0_0 l0_1 l0_2).bind fun bt475 => ((laws_toMachine.f k a1_0 l1_1 l1_2).bind fun bt483 => ((impl_Follows.f k bt475.1 bt475.2.1 bt475.2.2 bt483.1 bt483.2.1 bt483.2.2).bind fun t491 => (if (t491 != t474) = true then (some false) else ((laws_toMachine.f k a0_0 l0_1 l0_2).bind fun bt492 => ((laws_eqMachine.f k bt475.1 bt475.2.1 bt475.2.2 bt492.1 bt492.2.1 bt492.2.2).bind fun t499 => (if t499 = true then ((laws_toMachine.f k a1_0 l1_1 l1_2).bind fun bt500 => ((laws_eqMachine.f k bt483.1 bt483.2.1 bt483.2.2 bt500.1 bt500.2.1 bt500.2.2).bind fun t507 => (if t507 = true then (some true) else (some false)))) else (some false)))))))))))))) = some r := H
 have A3 := Aside0.mk A30
 clear A30
 by_cases c4 : t458 < 0
 ·rw [if_pos c4] at H
  have c4b0 : decide (t458 < 0) = true := decide_eq_true c4
  clear c4
  obtain rfl := Option.some.inj H
  go_enter Try.func7, Try.ntmps7
  go_wp2_with (first | ((with_reducible refine gate_dst (N := 2) rfl ?_); refine box_event ?hg (N := 2) ?hd (cs := #[.int .i64 a0_0, .slice A0_1 l0_1.length c0_1, .slice A0_2 l0_2.length c0_2]) (t := 25) ?hr ?_; (case hd => rfl); (case hg => rfl); (case hr => first | (go_simp; done) | (go_simp; rfl)); intro gb456 hg w5 hbox hb; have n0_ := bS HB hb; have n1_ := Aside0.mk (hbox); have n2_ := gS HB hg; have n3_ := gS HB hg; clear HB; have HB := n0_; have BK456 := n1_; have GW456 := n2_; have GE456 := n3_; clear n0_ n1_ n2_ n3_; clear hb hbox hg) | ((with_reducible refine gate_dst (N := 3) rfl ?_); refine box_event ?hg (N := 3) ?hd (cs := #[.int .i64 a1_0, .slice A1_1 l1_1.length c1_1, .slice A1_2 l1_2.length c1_2]) (t := 25) ?hr ?_; (case hd => rfl); (case hg => rfl); (case hr => first | (go_simp; done) | (go_simp; rfl)); intro gb457 hg w6 hbox hb; have n0_ := kB BK456 hb; have n1_ := bS HB hb; have n2_ := Aside0.mk (hbox); have n3_ := gS HB hg; have n4_ := gS HB hg; have n5_ := Aside0.mk ((by rw [hg]; exact Nat.ne_of_lt (blk_lt (g := gb456) (o := .cells #[.int .i64 a0_0, .slice A0_1 l0_1.length c0_1, .slice A0_2 l0_2.length c0_2] 25 (0, 0)) (zK BK456)) : gb456 ≠ gb457)); have n6_ := Aside0.mk ((by rw [hg]; exact Nat.ne_of_gt (blk_lt (g := gb456) (o := .cells #[.int .i64 a0_0, .slice A0_1 l0_1.length c0_1, .slice A0_2 l0_2.length c0_2] 25 (0, 0)) (zK BK456)) : gb457 ≠ gb456)); clear BK456; clear HB; have BK456 := n0_; have HB := n1_; have BK457 := n2_; have GW457 := n3_; have GE457 := n4_; have NB456_457 := n5_; have NB457_456 := n6_; clear n0_ n1_ n2_ n3_ n4_ n5_ n6_; clear hb hbox hg; have hnb7 := NB456_457.out; have hnc7 := NB457_456.out; have hcz8_0 := bc0 BK456; have hcz8_1 := bc1 BK456; have hcz8_2 := bc2 BK456; have hfz8_0 := bf BK456 0; have hfz8_1 := bf BK456 1; have hfz8_2 := bf BK456 2) | ((with_reducible refine gate_callee (f := 9) rfl ?_); refine goesL_ (some 12) rfl rfl Try.func9 (by kernel_rfl) rfl #[.agg #[.int .i64 a0_0, .slice A0_1 l0_1.length c0_1, .slice A0_2 l0_2.length c0_2], .int .i64 1048576] rfl zG ?_; (with_reducible refine (laws_szMachine.calls a0_0 _ _ l0_1 _ _ l0_2 1048576 t458 _ ?side1 ?side2 ?side3 ?side4 A3.out).mono ?_); (case side1 => exact cS HR0_1 HB); (case side2 => exact HC0_1.out); (case side3 => exact cS HR0_2 HB); (case side4 => exact HC0_2.out); rintro e w9 ⟨rfl, hb⟩; refine ⟨_, rfl, ?_⟩; have n0_ := kB BK456 hb; have n1_ := kB BK457 hb; have n2_ := bS HB hb; clear BK456; clear BK457; clear HB; have BK456 := n0_; have BK457 := n1_; have HB := n2_; clear n0_ n1_ n2_; (try clear hb)))
  go_ret
  exact ⟨by first | rfl | (simp [errW_none, errW_some] <;> rfl) | (simp [*, errW_none, errW_some] <;> rfl), by repeat (first | (with_reducible first | exact HB.out | apply below_alloc | apply pw_below_drewN | apply below_drew1 | refine below_set ?_ GE456.out | refine below_set ?_ GE457.out) | exact HB.out)⟩
 ·rw [if_neg c4] at H
  have c4b0 : decide (t458 < 0) = false := decide_eq_false c4
  clear c4
  replace H := Option.bind_eq_some_iff.mp H
  obtain ⟨t459, A100, H⟩ := H
  replace H : (if t459 < 0 then (some true) else ((laws_toMachine.f k a0_0 l0_1 l0_2).bind fun bt460 => ((laws_toMachine.f k a1_0 l1_1 l1_2).bind fun bt467 => ((spec_Follows.f k bt460.1 bt460.2.1 bt460.2.2 bt467.1 bt467.2.1 bt467.2.2).bind fun t474 => ((laws_toMachine.f k a0_0 l0_1 l0_2).bind fun bt475 => ((laws_toMachine.f k a1_0 l1_1 l1_2).bind fun bt483 => ((impl_Follows.f k bt475.1 bt475.2.1 bt475.2.2 bt483.1 bt483.2.1 bt483.2.2).bind fun t491 => (if (t491 != t474) = true then (some false) else ((laws_toMachine.f k a0_0 l0_1 l0_2).bind fun bt492 => ((laws_eqMachine.f k bt475.1 bt475.2.1 bt475.2.2 bt492.1 bt492.2.1 bt492.2.2).bind fun t499 => (if t499 = true then ((laws_toMachine.f k a1_0 l1_1 l1_2).bind fun bt500 => ((laws_eqMachine.f k bt483.1 bt483.2.1 bt483.2.2 bt500.1 bt500.2.1 bt500.2.2).bind fun t507 => (if t507 = true then (some true) else (some false)))) else (some false)))))))))))) = some r := H
  have A10 := Aside0.mk A100
  clear A100
  by_cases c11 : t459 < 0
  ·rw [if_pos c11] at H
   have c11b0 : decide (t459 < 0) = true := decide_eq_true c11
   clear c11
   obtain rfl := Option.some.inj H
   go_enter Try.func7, Try.ntmps7
   go_wp2_with (first | ((with_reducible refine gate_dst (N := 2) rfl ?_); refine box_event ?hg (N := 2) ?hd (cs := #[.int .i64 a0_0, .slice A0_1 l0_1.length c0_1, .slice A0_2 l0_2.length c0_2]) (t := 25) ?hr ?_; (case hd => rfl); (case hg => rfl); (case hr => first | (go_simp; done) | (go_simp; rfl)); intro gb456 hg w12 hbox hb; have n0_ := bS HB hb; have n1_ := Aside0.mk (hbox); have n2_ := gS HB hg; have n3_ := gS HB hg; clear HB; have HB := n0_; have BK456 := n1_; have GW456 := n2_; have GE456 := n3_; clear n0_ n1_ n2_ n3_; clear hb hbox hg) | ((with_reducible refine gate_dst (N := 3) rfl ?_); refine box_event ?hg (N := 3) ?hd (cs := #[.int .i64 a1_0, .slice A1_1 l1_1.length c1_1, .slice A1_2 l1_2.length c1_2]) (t := 25) ?hr ?_; (case hd => rfl); (case hg => rfl); (case hr => first | (go_simp; done) | (go_simp; rfl)); intro gb457 hg w13 hbox hb; have n0_ := kB BK456 hb; have n1_ := bS HB hb; have n2_ := Aside0.mk (hbox); have n3_ := gS HB hg; have n4_ := gS HB hg; have n5_ := Aside0.mk ((by rw [hg]; exact Nat.ne_of_lt (blk_lt (g := gb456) (o := .cells #[.int .i64 a0_0, .slice A0_1 l0_1.length c0_1, .slice A0_2 l0_2.length c0_2] 25 (0, 0)) (zK BK456)) : gb456 ≠ gb457)); have n6_ := Aside0.mk ((by rw [hg]; exact Nat.ne_of_gt (blk_lt (g := gb456) (o := .cells #[.int .i64 a0_0, .slice A0_1 l0_1.length c0_1, .slice A0_2 l0_2.length c0_2] 25 (0, 0)) (zK BK456)) : gb457 ≠ gb456)); clear BK456; clear HB; have BK456 := n0_; have HB := n1_; have BK457 := n2_; have GW457 := n3_; have GE457 := n4_; have NB456_457 := n5_; have NB457_456 := n6_; clear n0_ n1_ n2_ n3_ n4_ n5_ n6_; clear hb hbox hg; have hnb14 := NB456_457.out; have hnc14 := NB457_456.out; have hcz15_0 := bc0 BK456; have hcz15_1 := bc1 BK456; have hcz15_2 := bc2 BK456; have hfz15_0 := bf BK456 0; have hfz15_1 := bf BK456 1; have hfz15_2 := bf BK456 2) | ((with_reducible refine gate_callee (f := 9) rfl ?_); refine goesL_ (some 12) rfl rfl Try.func9 (by kernel_rfl) rfl #[.agg #[.int .i64 a0_0, .slice A0_1 l0_1.length c0_1, .slice A0_2 l0_2.length c0_2], .int .i64 1048576] rfl zG ?_; (with_reducible refine (laws_szMachine.calls a0_0 _ _ l0_1 _ _ l0_2 1048576 t458 _ ?side1 ?side2 ?side3 ?side4 A3.out).mono ?_); (case side1 => exact cS HR0_1 HB); (case side2 => exact HC0_1.out); (case side3 => exact cS HR0_2 HB); (case side4 => exact HC0_2.out); rintro e w16 ⟨rfl, hb⟩; refine ⟨_, rfl, ?_⟩; have n0_ := kB BK456 hb; have n1_ := kB BK457 hb; have n2_ := bS HB hb; clear BK456; clear BK457; clear HB; have BK456 := n0_; have BK457 := n1_; have HB := n2_; clear n0_ n1_ n2_; (try clear hb); have hcz17_0 := bc0 BK457; have hcz17_1 := bc1 BK457; have hcz17_2 := bc2 BK457; have hfz17_0 := bf BK457 0; have hfz17_1 := bf BK457 1; have hfz17_2 := bf BK457 2) | ((with_reducible refine gate_callee (f := 9) rfl ?_); refine goesL_ (some 17) rfl rfl Try.func9 (by kernel_rfl) rfl #[.agg #[.int .i64 a1_0, .slice A1_1 l1_1.length c1_1, .slice A1_2 l1_2.length c1_2], .int .i64 t458] rfl zG ?_; (with_reducible refine (laws_szMachine.calls a1_0 _ _ l1_1 _ _ l1_2 t458 t459 _ ?side1 ?side2 ?side3 ?side4 A10.out).mono ?_); (case side1 => exact cS HR1_1 HB); (case side2 => exact HC1_1.out); (case side3 => exact cS HR1_2 HB); (case side4 => exact HC1_2.out); rintro e w18 ⟨rfl, hb⟩; refine ⟨_, rfl, ?_⟩; have n0_ := kB BK456 hb; have n1_ := kB BK457 hb; have n2_ := bS HB hb; clear BK456; clear BK457; clear HB; have BK456 := n0_; have BK457 := n1_; have HB := n2_; clear n0_ n1_ n2_; (try clear hb)))
   go_ret
   exact ⟨by first | rfl | (simp [errW_none, errW_some] <;> rfl) | (simp [*, errW_none, errW_some] <;> rfl), by repeat (first | (with_reducible first | exact HB.out | apply below_alloc | apply pw_below_drewN | apply below_drew1 | refine below_set ?_ GE456.out | refine below_set ?_ GE457.out) | exact HB.out)⟩
  ·rw [if_neg c11] at H
   have c11b0 : decide (t459 < 0) = false := decide_eq_false c11
   clear c11
   replace H := Option.bind_eq_some_iff.mp H
   obtain ⟨⟨t460, t461, t464⟩, A190, H⟩ := H
   replace H : ((laws_toMachine.f k a1_0 l1_1 l1_2).bind fun bt467 => ((spec_Follows.f k t460 t461 t464 bt467.1 bt467.2.1 bt467.2.2).bind fun t474 => ((laws_toMachine.f k a0_0 l0_1 l0_2).bind fun bt475 => ((laws_toMachine.f k a1_0 l1_1 l1_2).bind fun bt483 => ((impl_Follows.f k bt475.1 bt475.2.1 bt475.2.2 bt483.1 bt483.2.1 bt483.2.2).bind fun t491 => (if (t491 != t474) = true then (some false) else ((laws_toMachine.f k a0_0 l0_1 l0_2).bind fun bt492 => ((laws_eqMachine.f k bt475.1 bt475.2.1 bt475.2.2 bt492.1 bt492.2.1 bt492.2.2).bind fun t499 => (if t499 = true then ((laws_toMachine.f k a1_0 l1_1 l1_2).bind fun bt500 => ((laws_eqMachine.f k bt483.1 bt483.2.1 bt483.2.2 bt500.1 bt500.2.1 bt500.2.2).bind fun t507 => (if t507 = true then (some true) else (some false)))) else (some false)))))))))) = some r := H
   have A19 := Aside0.mk A190
   clear A190
   replace H := Option.bind_eq_some_iff.mp H
   obtain ⟨⟨t467, t468, t471⟩, A200, H⟩ := H
   replace H : ((spec_Follows.f k t460 t461 t464 t467 t468 t471).bind fun t474 => ((laws_toMachine.f k a0_0 l0_1 l0_2).bind fun bt475 => ((laws_toMachine.f k a1_0 l1_1 l1_2).bind fun bt483 => ((impl_Follows.f k bt475.1 bt475.2.1 bt475.2.2 bt483.1 bt483.2.1 bt483.2.2).bind fun t491 => (if (t491 != t474) = true then (some false) else ((laws_toMachine.f k a0_0 l0_1 l0_2).bind fun bt492 => ((laws_eqMachine.f k bt475.1 bt475.2.1 bt475.2.2 bt492.1 bt492.2.1 bt492.2.2).bind fun t499 => (if t499 = true then ((laws_toMachine.f k a1_0 l1_1 l1_2).bind fun bt500 => ((laws_eqMachine.f k bt483.1 bt483.2.1 bt483.2.2 bt500.1 bt500.2.1 bt500.2.2).bind fun t507 => (if t507 = true then (some true) else (some false)))) else (some false))))))))) = some r := H
   have A20 := Aside0.mk A200
   clear A200
   replace H := Option.bind_eq_some_iff.mp H
   obtain ⟨t474, A210, H⟩ := H
   replace H : ((laws_toMachine.f k a0_0 l0_1 l0_2).bind fun bt475 => ((laws_toMachine.f k a1_0 l1_1 l1_2).bind fun bt483 => ((impl_Follows.f k bt475.1 bt475.2.1 bt475.2.2 bt483.1 bt483.2.1 bt483.2.2).bind fun t491 => (if (t491 != t474) = true then (some false) else ((laws_toMachine.f k a0_0 l0_1 l0_2).bind fun bt492 => ((laws_eqMachine.f k bt475.1 bt475.2.1 bt475.2.2 bt492.1 bt492.2.1 bt492.2.2).bind fun t499 => (if t499 = true then ((laws_toMachine.f k a1_0 l1_1 l1_2).bind fun bt500 => ((laws_eqMachine.f k bt483.1 bt483.2.1 bt483.2.2 bt500.1 bt500.2.1 bt500.2.2).bind fun t507 => (if t507 = true then (some true) else (some false)))) else (some false)))))))) = some r := H
   have A21 := Aside0.mk A210
   clear A210
   replace H := Option.bind_eq_some_iff.mp H
   obtain ⟨⟨t475, t476, t479⟩, A220, H⟩ := H
   replace H : ((laws_toMachine.f k a1_0 l1_1 l1_2).bind fun bt483 => ((impl_Follows.f k t475 t476 t479 bt483.1 bt483.2.1 bt483.2.2).bind fun t491 => (if (t491 != t474) = true then (some false) else ((laws_toMachine.f k a0_0 l0_1 l0_2).bind fun bt492 => ((laws_eqMachine.f k t475 t476 t479 bt492.1 bt492.2.1 bt492.2.2).bind fun t499 => (if t499 = true then ((laws_toMachine.f k a1_0 l1_1 l1_2).bind fun bt500 => ((laws_eqMachine.f k bt483.1 bt483.2.1 bt483.2.2 bt500.1 bt500.2.1 bt500.2.2).bind fun t507 => (if t507 = true then (some true) else (some false)))) else (some false))))))) = some r := H
   have A22 := Aside0.mk A220
   clear A220
   replace H := Option.bind_eq_some_iff.mp H
   obtain ⟨⟨t483, t484, t487⟩, A230, H⟩ := H
   replace H : ((impl_Follows.f k t475 t476 t479 t483 t484 t487).bind fun t491 => (if (t491 != t474) = true then (some false) else ((laws_toMachine.f k a0_0 l0_1 l0_2).bind fun bt492 => ((laws_eqMachine.f k t475 t476 t479 bt492.1 bt492.2.1 bt492.2.2).bind fun t499 => (if t499 = true then ((laws_toMachine.f k a1_0 l1_1 l1_2).bind fun bt500 => ((laws_eqMachine.f k t483 t484 t487 bt500.1 bt500.2.1 bt500.2.2).bind fun t507 => (if t507 = true then (some true) else (some false)))) else (some false)))))) = some r := H
   have A23 := Aside0.mk A230
   clear A230
   replace H := Option.bind_eq_some_iff.mp H
   obtain ⟨t491, A240, H⟩ := H
   replace H : (if (t491 != t474) = true then (some false) else ((laws_toMachine.f k a0_0 l0_1 l0_2).bind fun bt492 => ((laws_eqMachine.f k t475 t476 t479 bt492.1 bt492.2.1 bt492.2.2).bind fun t499 => (if t499 = true then ((laws_toMachine.f k a1_0 l1_1 l1_2).bind fun bt500 => ((laws_eqMachine.f k t483 t484 t487 bt500.1 bt500.2.1 bt500.2.2).bind fun t507 => (if t507 = true then (some true) else (some false)))) else (some false))))) = some r := H
   have A24 := Aside0.mk A240
   clear A240
   by_cases c25 : (t491 != t474) = true
   ·rw [if_pos c25] at H
    have c25b0 : (t491 != t474) = true := c25
    (try (have c25b1 : decide (t491 = t474) = false := by simpa using c25))
    (try (have c25b2 : (t491 == t474) = false := by simpa using c25))
    (try (have c25b3 : ¬ (t491 = t474) := by simpa using c25))
    clear c25
    exact absurd H (by simp [ht_])
   ·rw [if_neg c25] at H
    have c25b0 : (t491 != t474) = false := by simpa using c25
    (try (have c25b1 : decide (t491 = t474) = true := by simpa using c25))
    (try (have c25b2 : (t491 == t474) = true := by simpa using c25))
    clear c25
    replace H := Option.bind_eq_some_iff.mp H
    obtain ⟨⟨t492, t493, t496⟩, A260, H⟩ := H
    replace H : ((laws_eqMachine.f k t475 t476 t479 t492 t493 t496).bind fun t499 => (if t499 = true then ((laws_toMachine.f k a1_0 l1_1 l1_2).bind fun bt500 => ((laws_eqMachine.f k t483 t484 t487 bt500.1 bt500.2.1 bt500.2.2).bind fun t507 => (if t507 = true then (some true) else (some false)))) else (some false))) = some r := H
    have A26 := Aside0.mk A260
    clear A260
    replace H := Option.bind_eq_some_iff.mp H
    obtain ⟨t499, A270, H⟩ := H
    replace H : (if t499 = true then ((laws_toMachine.f k a1_0 l1_1 l1_2).bind fun bt500 => ((laws_eqMachine.f k t483 t484 t487 bt500.1 bt500.2.1 bt500.2.2).bind fun t507 => (if t507 = true then (some true) else (some false)))) else (some false)) = some r := H
    have A27 := Aside0.mk A270
    clear A270
    by_cases c28 : t499 = true
    ·subst c28
     have H1 : ((laws_toMachine.f k a1_0 l1_1 l1_2).bind fun bt500 => ((laws_eqMachine.f k t483 t484 t487 bt500.1 bt500.2.1 bt500.2.2).bind fun t507 => (if t507 = true then (some true) else (some false)))) = some r := by rw [if_pos rfl] at H; exact H
     clear H
     have H := H1
     clear H1
     replace H := Option.bind_eq_some_iff.mp H
     obtain ⟨⟨t500, t501, t504⟩, A290, H⟩ := H
     replace H : ((laws_eqMachine.f k t483 t484 t487 t500 t501 t504).bind fun t507 => (if t507 = true then (some true) else (some false))) = some r := H
     have A29 := Aside0.mk A290
     clear A290
     replace H := Option.bind_eq_some_iff.mp H
     obtain ⟨t507, A300, H⟩ := H
     replace H : (if t507 = true then (some true) else (some false)) = some r := H
     have A30 := Aside0.mk A300
     clear A300
     by_cases c31 : t507 = true
     ·subst c31
      have H1 : (some true) = some r := by rw [if_pos rfl] at H; exact H
      clear H
      have H := H1
      clear H1
      obtain rfl := Option.some.inj H
      go_enter Try.func7, Try.ntmps7
      try go_wp2_with (first | ((with_reducible refine gate_dst (N := 2) rfl ?_); refine box_event ?hg (N := 2) ?hd (cs := #[.int .i64 a0_0, .slice A0_1 l0_1.length c0_1, .slice A0_2 l0_2.length c0_2]) (t := 25) ?hr ?_; (case hd => rfl); (case hg => rfl); (case hr => first | (go_simp; done) | (go_simp; rfl)); intro gb456 hg w32 hbox hb; have n0_ := bS HB hb; have n1_ := Aside0.mk (hbox); have n2_ := gS HB hg; have n3_ := gS HB hg; clear HB; have HB := n0_; have BK456 := n1_; have GW456 := n2_; have GE456 := n3_; clear n0_ n1_ n2_ n3_; clear hb hbox hg) | ((with_reducible refine gate_dst (N := 3) rfl ?_); refine box_event ?hg (N := 3) ?hd (cs := #[.int .i64 a1_0, .slice A1_1 l1_1.length c1_1, .slice A1_2 l1_2.length c1_2]) (t := 25) ?hr ?_; (case hd => rfl); (case hg => rfl); (case hr => first | (go_simp; done) | (go_simp; rfl)); intro gb457 hg w33 hbox hb; have n0_ := kB BK456 hb; have n1_ := bS HB hb; have n2_ := Aside0.mk (hbox); have n3_ := gS HB hg; have n4_ := gS HB hg; have n5_ := Aside0.mk ((by rw [hg]; exact Nat.ne_of_lt (blk_lt (g := gb456) (o := .cells #[.int .i64 a0_0, .slice A0_1 l0_1.length c0_1, .slice A0_2 l0_2.length c0_2] 25 (0, 0)) (zK BK456)) : gb456 ≠ gb457)); have n6_ := Aside0.mk ((by rw [hg]; exact Nat.ne_of_gt (blk_lt (g := gb456) (o := .cells #[.int .i64 a0_0, .slice A0_1 l0_1.length c0_1, .slice A0_2 l0_2.length c0_2] 25 (0, 0)) (zK BK456)) : gb457 ≠ gb456)); clear BK456; clear HB; have BK456 := n0_; have HB := n1_; have BK457 := n2_; have GW457 := n3_; have GE457 := n4_; have NB456_457 := n5_; have NB457_456 := n6_; clear n0_ n1_ n2_ n3_ n4_ n5_ n6_; clear hb hbox hg; have hnb34 := NB456_457.out; have hnc34 := NB457_456.out; have hcz35_0 := bc0 BK456; have hcz35_1 := bc1 BK456; have hcz35_2 := bc2 BK456; have hfz35_0 := bf BK456 0; have hfz35_1 := bf BK456 1; have hfz35_2 := bf BK456 2) | ((with_reducible refine gate_callee (f := 9) rfl ?_); refine goesL_ (some 12) rfl rfl Try.func9 (by kernel_rfl) rfl #[.agg #[.int .i64 a0_0, .slice A0_1 l0_1.length c0_1, .slice A0_2 l0_2.length c0_2], .int .i64 1048576] rfl zG ?_; (with_reducible refine (laws_szMachine.calls a0_0 _ _ l0_1 _ _ l0_2 1048576 t458 _ ?side1 ?side2 ?side3 ?side4 A3.out).mono ?_); (case side1 => exact cS HR0_1 HB); (case side2 => exact HC0_1.out); (case side3 => exact cS HR0_2 HB); (case side4 => exact HC0_2.out); rintro e w36 ⟨rfl, hb⟩; refine ⟨_, rfl, ?_⟩; have n0_ := kB BK456 hb; have n1_ := kB BK457 hb; have n2_ := bS HB hb; clear BK456; clear BK457; clear HB; have BK456 := n0_; have BK457 := n1_; have HB := n2_; clear n0_ n1_ n2_; (try clear hb); have hcz37_0 := bc0 BK457; have hcz37_1 := bc1 BK457; have hcz37_2 := bc2 BK457; have hfz37_0 := bf BK457 0; have hfz37_1 := bf BK457 1; have hfz37_2 := bf BK457 2) | ((with_reducible refine gate_callee (f := 9) rfl ?_); refine goesL_ (some 17) rfl rfl Try.func9 (by kernel_rfl) rfl #[.agg #[.int .i64 a1_0, .slice A1_1 l1_1.length c1_1, .slice A1_2 l1_2.length c1_2], .int .i64 t458] rfl zG ?_; (with_reducible refine (laws_szMachine.calls a1_0 _ _ l1_1 _ _ l1_2 t458 t459 _ ?side1 ?side2 ?side3 ?side4 A10.out).mono ?_); (case side1 => exact cS HR1_1 HB); (case side2 => exact HC1_1.out); (case side3 => exact cS HR1_2 HB); (case side4 => exact HC1_2.out); rintro e w38 ⟨rfl, hb⟩; refine ⟨_, rfl, ?_⟩; have n0_ := kB BK456 hb; have n1_ := kB BK457 hb; have n2_ := bS HB hb; clear BK456; clear BK457; clear HB; have BK456 := n0_; have BK457 := n1_; have HB := n2_; clear n0_ n1_ n2_; (try clear hb)))
      have n0_ := Aside0.mk (blk_drew BK456.out)
      have n1_ := Aside0.mk (blk_drew BK457.out)
      have n2_ := Aside0.mk (below_drew1 HB.out)
      clear BK456
      clear BK457
      clear HB
      have BK456 := n0_
      have BK457 := n1_
      have HB := n2_
      clear n0_ n1_ n2_
      refine start_ (n := 6) (S := fun w' => w'.cell? ⟨gb456, 0, none⟩ = some (.int .i64 a0_0) ∧ w'.cell? ⟨gb456, 1, none⟩ = some (.slice A0_1 l0_1.length c0_1) ∧ w'.cell? ⟨gb456, 2, none⟩ = some (.slice A0_2 l0_2.length c0_2) ∧ w'.cell? ⟨gb457, 0, none⟩ = some (.int .i64 a1_0) ∧ w'.cell? ⟨gb457, 1, none⟩ = some (.slice A1_1 l1_1.length c1_1) ∧ w'.cell? ⟨gb457, 2, none⟩ = some (.slice A1_2 l1_2.length c1_2)) (ds := []) (bm 6 0) (by kernel_rfl) rfl (bm0 _) ⟨bc0 BK456, bc1 BK456, bc2 BK456, bc0 BK457, bc1 BK457, bc2 BK457⟩ (fun hHeld => ?_)
      generalize w38.drew = w39 at BK456 BK457 HB hHeld ⊢
      refine take_ (i := 0) (N := some 20) (v := ?_) (a' := ?_) (bm 6 1) rfl rfl (by kernel_rfl) (fun _ _ _ h => h) (Or.inl ⟨by rfl, ?_⟩) hHeld ?_ ?_
      rotate_left
      ·rintro w' ⟨s0, s1, s2, s3, s4, s5⟩
       go_simp
       with_reducible rfl
      rotate_left
      ·simp only [Act.put, List.setIfInBounds_toArray, List.set_cons_zero, List.set_cons_succ, i64_w, i32_w]
       rfl
      refine take_ (i := 2) (N := some 22) (v := ?_) (a' := ?_) (bm 6 5) rfl rfl (by kernel_rfl) (fun _ _ _ h => h) (Or.inl ⟨by rfl, ?_⟩) hHeld ?_ ?_
      rotate_left
      ·rintro w' ⟨s0, s1, s2, s3, s4, s5⟩
       go_simp
       with_reducible rfl
      rotate_left
      ·simp only [Act.put, List.setIfInBounds_toArray, List.set_cons_zero, List.set_cons_succ, i64_w, i32_w]
       rfl
      refine one_ (i := 1) (N := some 21) (bm 6 7) rfl rfl (by kernel_rfl) (by decide) (fun K hK => ?_)
      refine goes_ Try.func11 (by kernel_rfl) rfl #[.agg #[.int .i64 a0_0, .slice A0_1 l0_1.length c0_1, .slice A0_2 l0_2.length c0_2]] (by rfl) rfl rfl zG ?_
      with_reducible refine (laws_toMachine.calls k a0_0 _ _ l0_1 _ _ l0_2 t460 t461 t464 _ ?side1 ?side2 ?side3 ?side4 A19.out).mono ?_
      (case side1 => exact cS HR0_1 HB)
      (case side2 => exact HC0_1.out)
      (case side3 => exact cS HR0_2 HB)
      (case side4 => exact HC0_2.out)
      rintro e w40 ⟨v462, v465, rfl, ho0, ho1, hb⟩
      refine ⟨_, rfl, ?_⟩
      have n0_ := Aside0.mk (Kd.R_lower ho0 (below_size (zB HB)))
      have n1_ := Aside0.mk (Kd.R_lower ho1 (below_size (zB HB)))
      have n2_ := kB BK456 hb
      have n3_ := kB BK457 hb
      have n4_ := bS HB hb
      clear BK456
      clear BK457
      clear HB
      have HO463 := n0_
      have HO466 := n1_
      have BK456 := n2_
      have BK457 := n3_
      have HB := n4_
      clear n0_ n1_ n2_ n3_ n4_
      (try clear hb)
      (try clear hb2)
      (try clear hk)
      (try clear hi)
      (try clear ho0)
      (try clear ho1)
      refine hK.out _ _ ⟨bc0 BK456, bc1 BK456, bc2 BK456, bc0 BK457, bc1 BK457, bc2 BK457⟩ (fun hHeld => ?_)
      clear hK K
      refine norm_ (a' := ?_) ?_ ?_
      rotate_left
      ·show Act.put _ (some 21) _ = _
       simp only [Act.put, List.setIfInBounds_toArray, List.set_cons_zero, List.set_cons_succ, i64_w, i32_w]
       rfl
      refine one_ (i := 3) (N := some 23) (bm 6 15) rfl rfl (by kernel_rfl) (by decide) (fun K hK => ?_)
      refine goes_ Try.func11 (by kernel_rfl) rfl #[.agg #[.int .i64 a1_0, .slice A1_1 l1_1.length c1_1, .slice A1_2 l1_2.length c1_2]] (by rfl) rfl rfl zG ?_
      with_reducible refine (laws_toMachine.calls k a1_0 _ _ l1_1 _ _ l1_2 t467 t468 t471 _ ?side1 ?side2 ?side3 ?side4 A20.out).mono ?_
      (case side1 => exact cS HR1_1 HB)
      (case side2 => exact HC1_1.out)
      (case side3 => exact cS HR1_2 HB)
      (case side4 => exact HC1_2.out)
      rintro e w41 ⟨v469, v472, rfl, ho0, ho1, hb⟩
      refine ⟨_, rfl, ?_⟩
      have n0_ := Aside0.mk (Kd.R_elder' (zR HO463) (Kd.R_base ho0) hb)
      have n1_ := Aside0.mk (Kd.R_elder' (zR HO466) (Kd.R_base ho1) hb)
      have n2_ := Aside0.mk (Kd.R_lower (Kd.R_new' ho0 (Kd.R_lt (zR HO463))) (below_size (zB HB)))
      have n3_ := Aside0.mk (Kd.R_lower (Kd.R_new' ho1 (Kd.R_lt (zR HO466))) (below_size (zB HB)))
      have n4_ := kB BK456 hb
      have n5_ := kB BK457 hb
      have n6_ := bS HB hb
      clear HO463
      clear HO466
      clear BK456
      clear BK457
      clear HB
      have HO463 := n0_
      have HO466 := n1_
      have HO470 := n2_
      have HO473 := n3_
      have BK456 := n4_
      have BK457 := n5_
      have HB := n6_
      clear n0_ n1_ n2_ n3_ n4_ n5_ n6_
      (try clear hb)
      (try clear hb2)
      (try clear hk)
      (try clear hi)
      (try clear ho0)
      (try clear ho1)
      obtain ⟨Ao42, co42, eo42⟩ := Kd.R_slice HO463.out
      (first | subst eo42 | (injection eo42 with f1_ f2_ f3_; have f4_ := f1_.symm; have f5_ := f3_.symm; clear f1_ f2_ f3_; subst f4_; subst f5_))
      obtain ⟨Ao43, co43, eo43⟩ := Kd.R_slice HO466.out
      (first | subst eo43 | (injection eo43 with f1_ f2_ f3_; have f4_ := f1_.symm; have f5_ := f3_.symm; clear f1_ f2_ f3_; subst f4_; subst f5_))
      obtain ⟨Ao44, co44, eo44⟩ := Kd.R_slice HO470.out
      (first | subst eo44 | (injection eo44 with f1_ f2_ f3_; have f4_ := f1_.symm; have f5_ := f3_.symm; clear f1_ f2_ f3_; subst f4_; subst f5_))
      obtain ⟨Ao45, co45, eo45⟩ := Kd.R_slice HO473.out
      (first | subst eo45 | (injection eo45 with f1_ f2_ f3_; have f4_ := f1_.symm; have f5_ := f3_.symm; clear f1_ f2_ f3_; subst f4_; subst f5_))
      refine hK.out _ _ ⟨bc0 BK456, bc1 BK456, bc2 BK456, bc0 BK457, bc1 BK457, bc2 BK457⟩ (fun hHeld => ?_)
      clear hK K
      refine norm_ (a' := ?_) ?_ ?_
      rotate_left
      ·show Act.put _ (some 23) _ = _
       simp only [Act.put, List.setIfInBounds_toArray, List.set_cons_zero, List.set_cons_succ, i64_w, i32_w]
       rfl
      refine one_ (i := 4) (N := some 24) (bm 6 31) rfl rfl (by kernel_rfl) (by decide) (fun K hK => ?_)
      refine goes_ Try.func27 (by kernel_rfl) rfl #[.agg #[.int .i64 t460, .slice Ao42 t461.length co42, .slice Ao43 t464.length co43], .agg #[.int .i64 t467, .slice Ao44 t468.length co44, .slice Ao45 t471.length co45]] (by rfl) rfl rfl zG ?_
      with_reducible refine (spec_Follows.calls k t460 _ _ t461 _ _ t464 t467 _ _ t468 _ _ t471 t474 _ ?side1 ?side2 ?side3 ?side4 ?side5 ?side6 ?side7 ?side8 A21.out).mono ?_
      (case side1 => repeat (first | exact (Kd.R_reads' HO463.out).2.2 | (with_reducible refine Kd.C_alloc ?_ _) | (with_reducible refine Kd.C_drewN ?_ _) | (with_reducible refine Kd.C_drew ?_)))
      (case side2 => exact (Kd.R_reads' HO463.out).2.1)
      (case side3 => repeat (first | exact (Kd.R_reads' HO466.out).2.2 | (with_reducible refine Kd.C_alloc ?_ _) | (with_reducible refine Kd.C_drewN ?_ _) | (with_reducible refine Kd.C_drew ?_)))
      (case side4 => exact (Kd.R_reads' HO466.out).2.1)
      (case side5 => repeat (first | exact (Kd.R_reads' HO470.out).2.2 | (with_reducible refine Kd.C_alloc ?_ _) | (with_reducible refine Kd.C_drewN ?_ _) | (with_reducible refine Kd.C_drew ?_)))
      (case side6 => exact (Kd.R_reads' HO470.out).2.1)
      (case side7 => repeat (first | exact (Kd.R_reads' HO473.out).2.2 | (with_reducible refine Kd.C_alloc ?_ _) | (with_reducible refine Kd.C_drewN ?_ _) | (with_reducible refine Kd.C_drew ?_)))
      (case side8 => exact (Kd.R_reads' HO473.out).2.1)
      rintro e w46 ⟨rfl, hb⟩
      refine ⟨_, rfl, ?_⟩
      have n0_ := Aside0.mk (Kd.R_below (zR HO463) hb)
      have n1_ := Aside0.mk (Kd.R_below (zR HO466) hb)
      have n2_ := Aside0.mk (Kd.R_below (zR HO470) hb)
      have n3_ := Aside0.mk (Kd.R_below (zR HO473) hb)
      have n4_ := kB BK456 hb
      have n5_ := kB BK457 hb
      have n6_ := bS HB hb
      clear HO463
      clear HO466
      clear HO470
      clear HO473
      clear BK456
      clear BK457
      clear HB
      have HO463 := n0_
      have HO466 := n1_
      have HO470 := n2_
      have HO473 := n3_
      have BK456 := n4_
      have BK457 := n5_
      have HB := n6_
      clear n0_ n1_ n2_ n3_ n4_ n5_ n6_
      (try clear hb)
      (try clear hb2)
      (try clear hk)
      (try clear hi)
      refine hK.out _ _ ⟨bc0 BK456, bc1 BK456, bc2 BK456, bc0 BK457, bc1 BK457, bc2 BK457⟩ (fun hHeld => ?_)
      clear hK K
      refine norm_ (a' := ?_) ?_ ?_
      rotate_left
      ·show Act.put _ (some 24) _ = _
       simp only [Act.put, List.setIfInBounds_toArray, List.set_cons_zero, List.set_cons_succ, i64_w, i32_w]
       rfl
      refine pure_ (i := 5) (N := some 6) (v := ?_) (a' := ?_) (bm 6 63) rfl rfl (by kernel_rfl) (fun _ _ _ h => h) (Or.inl ⟨by rfl, ?_⟩) ?_ ?_
      rotate_left
      ·intro w'
       go_simp
       with_reducible rfl
      rotate_left
      ·simp only [Act.put, List.setIfInBounds_toArray, List.set_cons_zero, List.set_cons_succ, i64_w, i32_w]
       rfl
      refine done_ (by kernel_rfl) ?_
      try clear hHeld
      have hcz47_0 := bc0 BK456
      have hcz47_1 := bc1 BK456
      have hcz47_2 := bc2 BK456
      have hfz47_0 := bf BK456 0
      have hfz47_1 := bf BK456 1
      have hfz47_2 := bf BK456 2
      try go_wp2_with (first | ((with_reducible refine gate_callee (f := 11) rfl ?_); refine goesL_ (some 26) rfl rfl Try.func11 (by kernel_rfl) rfl #[.agg #[.int .i64 a0_0, .slice A0_1 l0_1.length c0_1, .slice A0_2 l0_2.length c0_2]] rfl zG ?_; (with_reducible refine (laws_toMachine.calls k a0_0 _ _ l0_1 _ _ l0_2 t475 t476 t479 _ ?side1 ?side2 ?side3 ?side4 A22.out).mono ?_); (case side1 => exact cS HR0_1 HB); (case side2 => exact HC0_1.out); (case side3 => exact cS HR0_2 HB); (case side4 => exact HC0_2.out); rintro e w48 ⟨v477, v480, rfl, ho0, ho1, hb⟩; refine ⟨_, rfl, ?_⟩; have n0_ := Aside0.mk (Kd.R_elder' (zR HO463) (Kd.R_base ho0) hb); have n1_ := Aside0.mk (Kd.R_elder' (zR HO466) (Kd.R_base ho1) hb); have n2_ := Aside0.mk (Kd.R_elder' (zR HO470) (Kd.R_base ho0) hb); have n3_ := Aside0.mk (Kd.R_elder' (zR HO473) (Kd.R_base ho1) hb); have n4_ := Aside0.mk (Kd.R_lower (Kd.R_new' (Kd.R_new' ho0 (Kd.R_lt (zR HO463))) (Kd.R_lt (zR HO470))) (below_size (zB HB))); have n5_ := Aside0.mk (Kd.R_lower (Kd.R_new' (Kd.R_new' ho1 (Kd.R_lt (zR HO466))) (Kd.R_lt (zR HO473))) (below_size (zB HB))); have n6_ := kB BK456 hb; have n7_ := kB BK457 hb; have n8_ := bS HB hb; clear HO463; clear HO466; clear HO470; clear HO473; clear BK456; clear BK457; clear HB; have HO463 := n0_; have HO466 := n1_; have HO470 := n2_; have HO473 := n3_; have HO478 := n4_; have HO481 := n5_; have BK456 := n6_; have BK457 := n7_; have HB := n8_; clear n0_ n1_ n2_ n3_ n4_ n5_ n6_ n7_ n8_; (try clear hb); (try clear ho0); (try clear ho1)) | ((with_reducible refine gate_dst (N := 7) rfl ?_); refine box_event ?hg (N := 7) ?hd (cs := #[.int .i64 0, .slice none 0 0, .slice none 0 0]) (t := 31) ?hr ?_; (case hd => rfl); (case hg => rfl); (case hr => first | (go_simp; done) | (go_simp; rfl)); intro gb482 hg w49 hbox hb; have n0_ := Aside0.mk (Kd.R_below (zR HO463) hb); have n1_ := Aside0.mk (Kd.R_below (zR HO466) hb); have n2_ := Aside0.mk (Kd.R_below (zR HO470) hb); have n3_ := Aside0.mk (Kd.R_below (zR HO473) hb); have n4_ := Aside0.mk (Kd.R_below (zR HO478) hb); have n5_ := Aside0.mk (Kd.R_below (zR HO481) hb); have n6_ := kB BK456 hb; have n7_ := kB BK457 hb; have n8_ := bS HB hb; have n9_ := Aside0.mk (hbox); have n10_ := gS HB hg; have n11_ := gS HB hg; have n12_ := Aside0.mk ((by rw [hg]; exact Nat.ne_of_lt (blk_lt (g := gb456) (o := .cells #[.int .i64 a0_0, .slice A0_1 l0_1.length c0_1, .slice A0_2 l0_2.length c0_2] 25 (0, 0)) (zK BK456)) : gb456 ≠ gb482)); have n13_ := Aside0.mk ((by rw [hg]; exact Nat.ne_of_gt (blk_lt (g := gb456) (o := .cells #[.int .i64 a0_0, .slice A0_1 l0_1.length c0_1, .slice A0_2 l0_2.length c0_2] 25 (0, 0)) (zK BK456)) : gb482 ≠ gb456)); have n14_ := Aside0.mk ((by rw [hg]; exact Nat.ne_of_lt (blk_lt (g := gb457) (o := .cells #[.int .i64 a1_0, .slice A1_1 l1_1.length c1_1, .slice A1_2 l1_2.length c1_2] 25 (0, 0)) (zK BK457)) : gb457 ≠ gb482)); have n15_ := Aside0.mk ((by rw [hg]; exact Nat.ne_of_gt (blk_lt (g := gb457) (o := .cells #[.int .i64 a1_0, .slice A1_1 l1_1.length c1_1, .slice A1_2 l1_2.length c1_2] 25 (0, 0)) (zK BK457)) : gb482 ≠ gb457)); clear HO463; clear HO466; clear HO470; clear HO473; clear HO478; clear HO481; clear BK456; clear BK457; clear HB; have HO463 := n0_; have HO466 := n1_; have HO470 := n2_; have HO473 := n3_; have HO478 := n4_; have HO481 := n5_; have BK456 := n6_; have BK457 := n7_; have HB := n8_; have BK482 := n9_; have GW482 := n10_; have GE482 := n11_; have NB456_482 := n12_; have NB482_456 := n13_; have NB457_482 := n14_; have NB482_457 := n15_; clear n0_ n1_ n2_ n3_ n4_ n5_ n6_ n7_ n8_ n9_ n10_ n11_ n12_ n13_ n14_ n15_; clear hb hbox hg; have hnb50 := NB482_456.out; have hnc50 := NB456_482.out; have hnb51 := NB482_457.out; have hnc51 := NB457_482.out; have hcz52_0 := bc0 BK482; have hcz52_1 := bc1 BK482; have hcz52_2 := bc2 BK482; have hfz52_0 := bf BK482 0; have hfz52_1 := bf BK482 1; have hfz52_2 := bf BK482 2; obtain ⟨Ao53, co53, eo53⟩ := Kd.R_slice HO478.out; subst eo53; obtain ⟨Ao54, co54, eo54⟩ := Kd.R_slice HO481.out; subst eo54; have hcz55_0 := bc0 BK457; have hcz55_1 := bc1 BK457; have hcz55_2 := bc2 BK457; have hfz55_0 := bf BK457 0; have hfz55_1 := bf BK457 1; have hfz55_2 := bf BK457 2) | ((with_reducible refine gate_callee (f := 11) rfl ?_); refine goesL_ (some 28) rfl rfl Try.func11 (by kernel_rfl) rfl #[.agg #[.int .i64 a1_0, .slice A1_1 l1_1.length c1_1, .slice A1_2 l1_2.length c1_2]] rfl zG ?_; (with_reducible refine (laws_toMachine.calls k a1_0 _ _ l1_1 _ _ l1_2 t483 t484 t487 _ ?side1 ?side2 ?side3 ?side4 A23.out).mono ?_); (case side1 => exact Kd.C_below HR1_1.out (zB HB)); (case side2 => exact HC1_1.out); (case side3 => exact Kd.C_below HR1_2.out (zB HB)); (case side4 => exact HC1_2.out); rintro e w56 ⟨v485, v488, rfl, ho0, ho1, hb⟩; refine ⟨_, rfl, ?_⟩; have n0_ := Aside0.mk (Kd.R_elder' (by (with_reducible repeat (first | apply Kd.R_alloc | apply Kd.R_drewN | apply Kd.R_drew)); exact (Kd.R_mono (Kd.R_far (p := ⟨gb482, 2, none⟩) (Kd.R_far (p := ⟨gb482, 1, none⟩) (Kd.R_far (p := ⟨gb482, 0, none⟩) (Kd.R_types HO463.out BK482.out (by decide)) (fun _ hk => hk.2) (.int .i64 t475)) (fun _ hk => hk.2) (.slice Ao53 t476.length co53)) (fun _ hk => hk.2) (.slice Ao54 t479.length co54)) (fun _ h_ => h_.1))) (Kd.R_base ho0) hb); have n1_ := Aside0.mk (Kd.R_elder' (by (with_reducible repeat (first | apply Kd.R_alloc | apply Kd.R_drewN | apply Kd.R_drew)); exact (Kd.R_mono (Kd.R_far (p := ⟨gb482, 2, none⟩) (Kd.R_far (p := ⟨gb482, 1, none⟩) (Kd.R_far (p := ⟨gb482, 0, none⟩) (Kd.R_types HO466.out BK482.out (by decide)) (fun _ hk => hk.2) (.int .i64 t475)) (fun _ hk => hk.2) (.slice Ao53 t476.length co53)) (fun _ hk => hk.2) (.slice Ao54 t479.length co54)) (fun _ h_ => h_.1))) (Kd.R_base ho1) hb); have n2_ := Aside0.mk (Kd.R_elder' (by (with_reducible repeat (first | apply Kd.R_alloc | apply Kd.R_drewN | apply Kd.R_drew)); exact (Kd.R_mono (Kd.R_far (p := ⟨gb482, 2, none⟩) (Kd.R_far (p := ⟨gb482, 1, none⟩) (Kd.R_far (p := ⟨gb482, 0, none⟩) (Kd.R_types HO470.out BK482.out (by decide)) (fun _ hk => hk.2) (.int .i64 t475)) (fun _ hk => hk.2) (.slice Ao53 t476.length co53)) (fun _ hk => hk.2) (.slice Ao54 t479.length co54)) (fun _ h_ => h_.1))) (Kd.R_base ho0) hb); have n3_ := Aside0.mk (Kd.R_elder' (by (with_reducible repeat (first | apply Kd.R_alloc | apply Kd.R_drewN | apply Kd.R_drew)); exact (Kd.R_mono (Kd.R_far (p := ⟨gb482, 2, none⟩) (Kd.R_far (p := ⟨gb482, 1, none⟩) (Kd.R_far (p := ⟨gb482, 0, none⟩) (Kd.R_types HO473.out BK482.out (by decide)) (fun _ hk => hk.2) (.int .i64 t475)) (fun _ hk => hk.2) (.slice Ao53 t476.length co53)) (fun _ hk => hk.2) (.slice Ao54 t479.length co54)) (fun _ h_ => h_.1))) (Kd.R_base ho1) hb); have n4_ := Aside0.mk (Kd.R_elder' (by (with_reducible repeat (first | apply Kd.R_alloc | apply Kd.R_drewN | apply Kd.R_drew)); exact (Kd.R_mono (Kd.R_far (p := ⟨gb482, 2, none⟩) (Kd.R_far (p := ⟨gb482, 1, none⟩) (Kd.R_far (p := ⟨gb482, 0, none⟩) (Kd.R_types HO478.out BK482.out (by decide)) (fun _ hk => hk.2) (.int .i64 t475)) (fun _ hk => hk.2) (.slice Ao53 t476.length co53)) (fun _ hk => hk.2) (.slice Ao54 t479.length co54)) (fun _ h_ => h_.1))) (Kd.R_base ho0) hb); have n5_ := Aside0.mk (Kd.R_elder' (by (with_reducible repeat (first | apply Kd.R_alloc | apply Kd.R_drewN | apply Kd.R_drew)); exact (Kd.R_mono (Kd.R_far (p := ⟨gb482, 2, none⟩) (Kd.R_far (p := ⟨gb482, 1, none⟩) (Kd.R_far (p := ⟨gb482, 0, none⟩) (Kd.R_types HO481.out BK482.out (by decide)) (fun _ hk => hk.2) (.int .i64 t475)) (fun _ hk => hk.2) (.slice Ao53 t476.length co53)) (fun _ hk => hk.2) (.slice Ao54 t479.length co54)) (fun _ h_ => h_.1))) (Kd.R_base ho1) hb); have n6_ := Aside0.mk (Kd.R_lower (Kd.R_new' (Kd.R_new' (Kd.R_new' ho0 (Kd.R_lt (by (with_reducible repeat (first | apply Kd.R_alloc | apply Kd.R_drewN | apply Kd.R_drew)); exact (Kd.R_mono (Kd.R_far (p := ⟨gb482, 2, none⟩) (Kd.R_far (p := ⟨gb482, 1, none⟩) (Kd.R_far (p := ⟨gb482, 0, none⟩) (Kd.R_types HO463.out BK482.out (by decide)) (fun _ hk => hk.2) (.int .i64 t475)) (fun _ hk => hk.2) (.slice Ao53 t476.length co53)) (fun _ hk => hk.2) (.slice Ao54 t479.length co54)) (fun _ h_ => h_.1))))) (Kd.R_lt (by (with_reducible repeat (first | apply Kd.R_alloc | apply Kd.R_drewN | apply Kd.R_drew)); exact (Kd.R_mono (Kd.R_far (p := ⟨gb482, 2, none⟩) (Kd.R_far (p := ⟨gb482, 1, none⟩) (Kd.R_far (p := ⟨gb482, 0, none⟩) (Kd.R_types HO470.out BK482.out (by decide)) (fun _ hk => hk.2) (.int .i64 t475)) (fun _ hk => hk.2) (.slice Ao53 t476.length co53)) (fun _ hk => hk.2) (.slice Ao54 t479.length co54)) (fun _ h_ => h_.1))))) (Kd.R_lt (by (with_reducible repeat (first | apply Kd.R_alloc | apply Kd.R_drewN | apply Kd.R_drew)); exact (Kd.R_mono (Kd.R_far (p := ⟨gb482, 2, none⟩) (Kd.R_far (p := ⟨gb482, 1, none⟩) (Kd.R_far (p := ⟨gb482, 0, none⟩) (Kd.R_types HO478.out BK482.out (by decide)) (fun _ hk => hk.2) (.int .i64 t475)) (fun _ hk => hk.2) (.slice Ao53 t476.length co53)) (fun _ hk => hk.2) (.slice Ao54 t479.length co54)) (fun _ h_ => h_.1))))) (below_size (zB HB))); have n7_ := Aside0.mk (Kd.R_lower (Kd.R_new' (Kd.R_new' (Kd.R_new' ho1 (Kd.R_lt (by (with_reducible repeat (first | apply Kd.R_alloc | apply Kd.R_drewN | apply Kd.R_drew)); exact (Kd.R_mono (Kd.R_far (p := ⟨gb482, 2, none⟩) (Kd.R_far (p := ⟨gb482, 1, none⟩) (Kd.R_far (p := ⟨gb482, 0, none⟩) (Kd.R_types HO466.out BK482.out (by decide)) (fun _ hk => hk.2) (.int .i64 t475)) (fun _ hk => hk.2) (.slice Ao53 t476.length co53)) (fun _ hk => hk.2) (.slice Ao54 t479.length co54)) (fun _ h_ => h_.1))))) (Kd.R_lt (by (with_reducible repeat (first | apply Kd.R_alloc | apply Kd.R_drewN | apply Kd.R_drew)); exact (Kd.R_mono (Kd.R_far (p := ⟨gb482, 2, none⟩) (Kd.R_far (p := ⟨gb482, 1, none⟩) (Kd.R_far (p := ⟨gb482, 0, none⟩) (Kd.R_types HO473.out BK482.out (by decide)) (fun _ hk => hk.2) (.int .i64 t475)) (fun _ hk => hk.2) (.slice Ao53 t476.length co53)) (fun _ hk => hk.2) (.slice Ao54 t479.length co54)) (fun _ h_ => h_.1))))) (Kd.R_lt (by (with_reducible repeat (first | apply Kd.R_alloc | apply Kd.R_drewN | apply Kd.R_drew)); exact (Kd.R_mono (Kd.R_far (p := ⟨gb482, 2, none⟩) (Kd.R_far (p := ⟨gb482, 1, none⟩) (Kd.R_far (p := ⟨gb482, 0, none⟩) (Kd.R_types HO481.out BK482.out (by decide)) (fun _ hk => hk.2) (.int .i64 t475)) (fun _ hk => hk.2) (.slice Ao53 t476.length co53)) (fun _ hk => hk.2) (.slice Ao54 t479.length co54)) (fun _ h_ => h_.1))))) (below_size (zB HB))); have n8_ := Aside0.mk (blk_below (g := gb456) (o := .cells #[.int .i64 a0_0, .slice A0_1 l0_1.length c0_1, .slice A0_2 l0_2.length c0_2] 25 (0, 0)) (by (with_reducible repeat (first | refine blk_drewN ?_ _ | refine blk_drew ?_ | refine blk_alloc ?_ _)); refine blk_far ?_ NB456_482.out _; (with_reducible repeat (first | refine blk_drewN ?_ _ | refine blk_drew ?_ | refine blk_alloc ?_ _)); refine blk_far ?_ NB456_482.out _; (with_reducible repeat (first | refine blk_drewN ?_ _ | refine blk_drew ?_ | refine blk_alloc ?_ _)); refine blk_far ?_ NB456_482.out _; (with_reducible repeat (first | refine blk_drewN ?_ _ | refine blk_drew ?_ | refine blk_alloc ?_ _)); exact BK456.out) hb); have n9_ := Aside0.mk (blk_below (g := gb457) (o := .cells #[.int .i64 a1_0, .slice A1_1 l1_1.length c1_1, .slice A1_2 l1_2.length c1_2] 25 (0, 0)) (by (with_reducible repeat (first | refine blk_drewN ?_ _ | refine blk_drew ?_ | refine blk_alloc ?_ _)); refine blk_far ?_ NB457_482.out _; (with_reducible repeat (first | refine blk_drewN ?_ _ | refine blk_drew ?_ | refine blk_alloc ?_ _)); refine blk_far ?_ NB457_482.out _; (with_reducible repeat (first | refine blk_drewN ?_ _ | refine blk_drew ?_ | refine blk_alloc ?_ _)); refine blk_far ?_ NB457_482.out _; (with_reducible repeat (first | refine blk_drewN ?_ _ | refine blk_drew ?_ | refine blk_alloc ?_ _)); exact BK457.out) hb); have n10_ := Aside0.mk (blk_below (g := gb482) (o := .cells #[.int .i64 t475, .slice Ao53 t476.length co53, .slice Ao54 t479.length co54] 31 (0, 0)) (by (with_reducible repeat (first | refine blk_drewN ?_ _ | refine blk_drew ?_ | refine blk_alloc ?_ _)); refine blk_put (cs := #[.int .i64 t475, .slice Ao53 t476.length co53, .slice none 0 0]) ?_ 2 _ rfl; (with_reducible repeat (first | refine blk_drewN ?_ _ | refine blk_drew ?_ | refine blk_alloc ?_ _)); refine blk_put (cs := #[.int .i64 t475, .slice none 0 0, .slice none 0 0]) ?_ 1 _ rfl; (with_reducible repeat (first | refine blk_drewN ?_ _ | refine blk_drew ?_ | refine blk_alloc ?_ _)); refine blk_put (cs := #[.int .i64 0, .slice none 0 0, .slice none 0 0]) ?_ 0 _ rfl; (with_reducible repeat (first | refine blk_drewN ?_ _ | refine blk_drew ?_ | refine blk_alloc ?_ _)); exact BK482.out) hb); have n11_ := bS HB hb; clear HO463; clear HO466; clear HO470; clear HO473; clear HO478; clear HO481; clear BK456; clear BK457; clear BK482; clear HB; have HO463 := n0_; have HO466 := n1_; have HO470 := n2_; have HO473 := n3_; have HO478 := n4_; have HO481 := n5_; have HO486 := n6_; have HO489 := n7_; have BK456 := n8_; have BK457 := n9_; have BK482 := n10_; have HB := n11_; clear n0_ n1_ n2_ n3_ n4_ n5_ n6_ n7_ n8_ n9_ n10_ n11_; (try clear hb); (try clear ho0); (try clear ho1)) | ((with_reducible refine gate_dst (N := 8) rfl ?_); refine box_event ?hg (N := 8) ?hd (cs := #[.int .i64 0, .slice none 0 0, .slice none 0 0]) (t := 31) ?hr ?_; (case hd => rfl); (case hg => rfl); (case hr => first | (go_simp; done) | (go_simp; rfl)); intro gb490 hg w57 hbox hb; have n0_ := Aside0.mk (Kd.R_below (zR HO463) hb); have n1_ := Aside0.mk (Kd.R_below (zR HO466) hb); have n2_ := Aside0.mk (Kd.R_below (zR HO470) hb); have n3_ := Aside0.mk (Kd.R_below (zR HO473) hb); have n4_ := Aside0.mk (Kd.R_below (zR HO478) hb); have n5_ := Aside0.mk (Kd.R_below (zR HO481) hb); have n6_ := Aside0.mk (Kd.R_below (zR HO486) hb); have n7_ := Aside0.mk (Kd.R_below (zR HO489) hb); have n8_ := kB BK456 hb; have n9_ := kB BK457 hb; have n10_ := kB BK482 hb; have n11_ := bS HB hb; have n12_ := Aside0.mk (hbox); have n13_ := gS HB hg; have n14_ := gS HB hg; have n15_ := Aside0.mk ((by rw [hg]; exact Nat.ne_of_lt (blk_lt (g := gb456) (o := .cells #[.int .i64 a0_0, .slice A0_1 l0_1.length c0_1, .slice A0_2 l0_2.length c0_2] 25 (0, 0)) (zK BK456)) : gb456 ≠ gb490)); have n16_ := Aside0.mk ((by rw [hg]; exact Nat.ne_of_gt (blk_lt (g := gb456) (o := .cells #[.int .i64 a0_0, .slice A0_1 l0_1.length c0_1, .slice A0_2 l0_2.length c0_2] 25 (0, 0)) (zK BK456)) : gb490 ≠ gb456)); have n17_ := Aside0.mk ((by rw [hg]; exact Nat.ne_of_lt (blk_lt (g := gb457) (o := .cells #[.int .i64 a1_0, .slice A1_1 l1_1.length c1_1, .slice A1_2 l1_2.length c1_2] 25 (0, 0)) (zK BK457)) : gb457 ≠ gb490)); have n18_ := Aside0.mk ((by rw [hg]; exact Nat.ne_of_gt (blk_lt (g := gb457) (o := .cells #[.int .i64 a1_0, .slice A1_1 l1_1.length c1_1, .slice A1_2 l1_2.length c1_2] 25 (0, 0)) (zK BK457)) : gb490 ≠ gb457)); have n19_ := Aside0.mk ((by rw [hg]; exact Nat.ne_of_lt (blk_lt (g := gb482) (o := .cells #[.int .i64 t475, .slice Ao53 t476.length co53, .slice Ao54 t479.length co54] 31 (0, 0)) (zK BK482)) : gb482 ≠ gb490)); have n20_ := Aside0.mk ((by rw [hg]; exact Nat.ne_of_gt (blk_lt (g := gb482) (o := .cells #[.int .i64 t475, .slice Ao53 t476.length co53, .slice Ao54 t479.length co54] 31 (0, 0)) (zK BK482)) : gb490 ≠ gb482)); clear HO463; clear HO466; clear HO470; clear HO473; clear HO478; clear HO481; clear HO486; clear HO489; clear BK456; clear BK457; clear BK482; clear HB; have HO463 := n0_; have HO466 := n1_; have HO470 := n2_; have HO473 := n3_; have HO478 := n4_; have HO481 := n5_; have HO486 := n6_; have HO489 := n7_; have BK456 := n8_; have BK457 := n9_; have BK482 := n10_; have HB := n11_; have BK490 := n12_; have GW490 := n13_; have GE490 := n14_; have NB456_490 := n15_; have NB490_456 := n16_; have NB457_490 := n17_; have NB490_457 := n18_; have NB482_490 := n19_; have NB490_482 := n20_; clear n0_ n1_ n2_ n3_ n4_ n5_ n6_ n7_ n8_ n9_ n10_ n11_ n12_ n13_ n14_ n15_ n16_ n17_ n18_ n19_ n20_; clear hb hbox hg; have hnb58 := NB490_456.out; have hnc58 := NB456_490.out; have hnb59 := NB490_457.out; have hnc59 := NB457_490.out; have hnb60 := NB490_482.out; have hnc60 := NB482_490.out; have hcz61_0 := bc0 BK490; have hcz61_1 := bc1 BK490; have hcz61_2 := bc2 BK490; have hfz61_0 := bf BK490 0; have hfz61_1 := bf BK490 1; have hfz61_2 := bf BK490 2; obtain ⟨Ao62, co62, eo62⟩ := Kd.R_slice HO486.out; subst eo62; obtain ⟨Ao63, co63, eo63⟩ := Kd.R_slice HO489.out; subst eo63; have hcz64_0 := bc0 BK482; have hcz64_1 := bc1 BK482; have hcz64_2 := bc2 BK482; have hfz64_0 := bf BK482 0; have hfz64_1 := bf BK482 1; have hfz64_2 := bf BK482 2) | ((with_reducible refine gate_callee (f := 28) rfl ?_); refine goesL_ (some 31) rfl rfl Try.func28 (by kernel_rfl) rfl #[.agg #[.int .i64 t475, .slice Ao53 t476.length co53, .slice Ao54 t479.length co54], .agg #[.int .i64 t483, .slice Ao62 t484.length co62, .slice Ao63 t487.length co63]] rfl zG ?_; (with_reducible refine (impl_Follows.calls k t475 _ _ t476 _ _ t479 t483 _ _ t484 _ _ t487 t491 _ ?side1 ?side2 ?side3 ?side4 ?side5 ?side6 ?side7 ?side8 A24.out).mono ?_); (case side1 => refine (Kd.R_reads' (e := 4) (base := w.heap.size) (ok := fun k_ => (((True ∧ some k_ ≠ (.slice Ao42 t461.length co42 : Value).ownBlock) ∧ some k_ ≠ (.slice Ao44 t468.length co44 : Value).ownBlock) ∧ some k_ ≠ (.slice Ao62 t484.length co62 : Value).ownBlock)) (n := t476.length) (c := co53) ?_).2.2; exact (by (with_reducible repeat (first | apply Kd.R_alloc | apply Kd.R_drewN | apply Kd.R_drew)); exact (Kd.R_mono (Kd.R_far (p := ⟨gb490, 2, none⟩) (Kd.R_far (p := ⟨gb490, 1, none⟩) (Kd.R_far (p := ⟨gb490, 0, none⟩) (Kd.R_types HO478.out BK490.out (by decide)) (fun _ hk => hk.2) (.int .i64 t483)) (fun _ hk => hk.2) (.slice Ao62 t484.length co62)) (fun _ hk => hk.2) (.slice Ao63 t487.length co63)) (fun _ h_ => h_.1)))); (case side2 => exact (Kd.R_reads' HO478.out).2.1); (case side3 => refine (Kd.R_reads' (e := 64) (base := w.heap.size) (ok := fun k_ => (((True ∧ some k_ ≠ (.slice Ao43 t464.length co43 : Value).ownBlock) ∧ some k_ ≠ (.slice Ao45 t471.length co45 : Value).ownBlock) ∧ some k_ ≠ (.slice Ao63 t487.length co63 : Value).ownBlock)) (n := t479.length) (c := co54) ?_).2.2; exact (by (with_reducible repeat (first | apply Kd.R_alloc | apply Kd.R_drewN | apply Kd.R_drew)); exact (Kd.R_mono (Kd.R_far (p := ⟨gb490, 2, none⟩) (Kd.R_far (p := ⟨gb490, 1, none⟩) (Kd.R_far (p := ⟨gb490, 0, none⟩) (Kd.R_types HO481.out BK490.out (by decide)) (fun _ hk => hk.2) (.int .i64 t483)) (fun _ hk => hk.2) (.slice Ao62 t484.length co62)) (fun _ hk => hk.2) (.slice Ao63 t487.length co63)) (fun _ h_ => h_.1)))); (case side4 => exact (Kd.R_reads' HO481.out).2.1); (case side5 => refine (Kd.R_reads' (e := 4) (base := w.heap.size) (ok := fun k_ => (((True ∧ some k_ ≠ (.slice Ao42 t461.length co42 : Value).ownBlock) ∧ some k_ ≠ (.slice Ao44 t468.length co44 : Value).ownBlock) ∧ some k_ ≠ (.slice Ao53 t476.length co53 : Value).ownBlock)) (n := t484.length) (c := co62) ?_).2.2; exact (by (with_reducible repeat (first | apply Kd.R_alloc | apply Kd.R_drewN | apply Kd.R_drew)); exact (Kd.R_mono (Kd.R_far (p := ⟨gb490, 2, none⟩) (Kd.R_far (p := ⟨gb490, 1, none⟩) (Kd.R_far (p := ⟨gb490, 0, none⟩) (Kd.R_types HO486.out BK490.out (by decide)) (fun _ hk => hk.2) (.int .i64 t483)) (fun _ hk => hk.2) (.slice Ao62 t484.length co62)) (fun _ hk => hk.2) (.slice Ao63 t487.length co63)) (fun _ h_ => h_.1)))); (case side6 => exact (Kd.R_reads' HO486.out).2.1); (case side7 => refine (Kd.R_reads' (e := 64) (base := w.heap.size) (ok := fun k_ => (((True ∧ some k_ ≠ (.slice Ao43 t464.length co43 : Value).ownBlock) ∧ some k_ ≠ (.slice Ao45 t471.length co45 : Value).ownBlock) ∧ some k_ ≠ (.slice Ao54 t479.length co54 : Value).ownBlock)) (n := t487.length) (c := co63) ?_).2.2; exact (by (with_reducible repeat (first | apply Kd.R_alloc | apply Kd.R_drewN | apply Kd.R_drew)); exact (Kd.R_mono (Kd.R_far (p := ⟨gb490, 2, none⟩) (Kd.R_far (p := ⟨gb490, 1, none⟩) (Kd.R_far (p := ⟨gb490, 0, none⟩) (Kd.R_types HO489.out BK490.out (by decide)) (fun _ hk => hk.2) (.int .i64 t483)) (fun _ hk => hk.2) (.slice Ao62 t484.length co62)) (fun _ hk => hk.2) (.slice Ao63 t487.length co63)) (fun _ h_ => h_.1)))); (case side8 => exact (Kd.R_reads' HO489.out).2.1); rintro e w65 ⟨rfl, hb⟩; refine ⟨_, rfl, ?_⟩; have n0_ := Aside0.mk (Kd.R_below (by (with_reducible repeat (first | apply Kd.R_alloc | apply Kd.R_drewN | apply Kd.R_drew)); exact (Kd.R_mono (Kd.R_far (p := ⟨gb490, 2, none⟩) (Kd.R_far (p := ⟨gb490, 1, none⟩) (Kd.R_far (p := ⟨gb490, 0, none⟩) (Kd.R_types HO463.out BK490.out (by decide)) (fun _ hk => hk.2) (.int .i64 t483)) (fun _ hk => hk.2) (.slice Ao62 t484.length co62)) (fun _ hk => hk.2) (.slice Ao63 t487.length co63)) (fun _ h_ => h_.1))) hb); have n1_ := Aside0.mk (Kd.R_below (by (with_reducible repeat (first | apply Kd.R_alloc | apply Kd.R_drewN | apply Kd.R_drew)); exact (Kd.R_mono (Kd.R_far (p := ⟨gb490, 2, none⟩) (Kd.R_far (p := ⟨gb490, 1, none⟩) (Kd.R_far (p := ⟨gb490, 0, none⟩) (Kd.R_types HO466.out BK490.out (by decide)) (fun _ hk => hk.2) (.int .i64 t483)) (fun _ hk => hk.2) (.slice Ao62 t484.length co62)) (fun _ hk => hk.2) (.slice Ao63 t487.length co63)) (fun _ h_ => h_.1))) hb); have n2_ := Aside0.mk (Kd.R_below (by (with_reducible repeat (first | apply Kd.R_alloc | apply Kd.R_drewN | apply Kd.R_drew)); exact (Kd.R_mono (Kd.R_far (p := ⟨gb490, 2, none⟩) (Kd.R_far (p := ⟨gb490, 1, none⟩) (Kd.R_far (p := ⟨gb490, 0, none⟩) (Kd.R_types HO470.out BK490.out (by decide)) (fun _ hk => hk.2) (.int .i64 t483)) (fun _ hk => hk.2) (.slice Ao62 t484.length co62)) (fun _ hk => hk.2) (.slice Ao63 t487.length co63)) (fun _ h_ => h_.1))) hb); have n3_ := Aside0.mk (Kd.R_below (by (with_reducible repeat (first | apply Kd.R_alloc | apply Kd.R_drewN | apply Kd.R_drew)); exact (Kd.R_mono (Kd.R_far (p := ⟨gb490, 2, none⟩) (Kd.R_far (p := ⟨gb490, 1, none⟩) (Kd.R_far (p := ⟨gb490, 0, none⟩) (Kd.R_types HO473.out BK490.out (by decide)) (fun _ hk => hk.2) (.int .i64 t483)) (fun _ hk => hk.2) (.slice Ao62 t484.length co62)) (fun _ hk => hk.2) (.slice Ao63 t487.length co63)) (fun _ h_ => h_.1))) hb); have n4_ := Aside0.mk (Kd.R_below (by (with_reducible repeat (first | apply Kd.R_alloc | apply Kd.R_drewN | apply Kd.R_drew)); exact (Kd.R_mono (Kd.R_far (p := ⟨gb490, 2, none⟩) (Kd.R_far (p := ⟨gb490, 1, none⟩) (Kd.R_far (p := ⟨gb490, 0, none⟩) (Kd.R_types HO478.out BK490.out (by decide)) (fun _ hk => hk.2) (.int .i64 t483)) (fun _ hk => hk.2) (.slice Ao62 t484.length co62)) (fun _ hk => hk.2) (.slice Ao63 t487.length co63)) (fun _ h_ => h_.1))) hb); have n5_ := Aside0.mk (Kd.R_below (by (with_reducible repeat (first | apply Kd.R_alloc | apply Kd.R_drewN | apply Kd.R_drew)); exact (Kd.R_mono (Kd.R_far (p := ⟨gb490, 2, none⟩) (Kd.R_far (p := ⟨gb490, 1, none⟩) (Kd.R_far (p := ⟨gb490, 0, none⟩) (Kd.R_types HO481.out BK490.out (by decide)) (fun _ hk => hk.2) (.int .i64 t483)) (fun _ hk => hk.2) (.slice Ao62 t484.length co62)) (fun _ hk => hk.2) (.slice Ao63 t487.length co63)) (fun _ h_ => h_.1))) hb); have n6_ := Aside0.mk (Kd.R_below (by (with_reducible repeat (first | apply Kd.R_alloc | apply Kd.R_drewN | apply Kd.R_drew)); exact (Kd.R_mono (Kd.R_far (p := ⟨gb490, 2, none⟩) (Kd.R_far (p := ⟨gb490, 1, none⟩) (Kd.R_far (p := ⟨gb490, 0, none⟩) (Kd.R_types HO486.out BK490.out (by decide)) (fun _ hk => hk.2) (.int .i64 t483)) (fun _ hk => hk.2) (.slice Ao62 t484.length co62)) (fun _ hk => hk.2) (.slice Ao63 t487.length co63)) (fun _ h_ => h_.1))) hb); have n7_ := Aside0.mk (Kd.R_below (by (with_reducible repeat (first | apply Kd.R_alloc | apply Kd.R_drewN | apply Kd.R_drew)); exact (Kd.R_mono (Kd.R_far (p := ⟨gb490, 2, none⟩) (Kd.R_far (p := ⟨gb490, 1, none⟩) (Kd.R_far (p := ⟨gb490, 0, none⟩) (Kd.R_types HO489.out BK490.out (by decide)) (fun _ hk => hk.2) (.int .i64 t483)) (fun _ hk => hk.2) (.slice Ao62 t484.length co62)) (fun _ hk => hk.2) (.slice Ao63 t487.length co63)) (fun _ h_ => h_.1))) hb); have n8_ := Aside0.mk (blk_below (g := gb456) (o := .cells #[.int .i64 a0_0, .slice A0_1 l0_1.length c0_1, .slice A0_2 l0_2.length c0_2] 25 (0, 0)) (by (with_reducible repeat (first | refine blk_drewN ?_ _ | refine blk_drew ?_ | refine blk_alloc ?_ _)); refine blk_far ?_ NB456_490.out _; (with_reducible repeat (first | refine blk_drewN ?_ _ | refine blk_drew ?_ | refine blk_alloc ?_ _)); refine blk_far ?_ NB456_490.out _; (with_reducible repeat (first | refine blk_drewN ?_ _ | refine blk_drew ?_ | refine blk_alloc ?_ _)); refine blk_far ?_ NB456_490.out _; (with_reducible repeat (first | refine blk_drewN ?_ _ | refine blk_drew ?_ | refine blk_alloc ?_ _)); exact BK456.out) hb); have n9_ := Aside0.mk (blk_below (g := gb457) (o := .cells #[.int .i64 a1_0, .slice A1_1 l1_1.length c1_1, .slice A1_2 l1_2.length c1_2] 25 (0, 0)) (by (with_reducible repeat (first | refine blk_drewN ?_ _ | refine blk_drew ?_ | refine blk_alloc ?_ _)); refine blk_far ?_ NB457_490.out _; (with_reducible repeat (first | refine blk_drewN ?_ _ | refine blk_drew ?_ | refine blk_alloc ?_ _)); refine blk_far ?_ NB457_490.out _; (with_reducible repeat (first | refine blk_drewN ?_ _ | refine blk_drew ?_ | refine blk_alloc ?_ _)); refine blk_far ?_ NB457_490.out _; (with_reducible repeat (first | refine blk_drewN ?_ _ | refine blk_drew ?_ | refine blk_alloc ?_ _)); exact BK457.out) hb); have n10_ := Aside0.mk (blk_below (g := gb482) (o := .cells #[.int .i64 t475, .slice Ao53 t476.length co53, .slice Ao54 t479.length co54] 31 (0, 0)) (by (with_reducible repeat (first | refine blk_drewN ?_ _ | refine blk_drew ?_ | refine blk_alloc ?_ _)); refine blk_far ?_ NB482_490.out _; (with_reducible repeat (first | refine blk_drewN ?_ _ | refine blk_drew ?_ | refine blk_alloc ?_ _)); refine blk_far ?_ NB482_490.out _; (with_reducible repeat (first | refine blk_drewN ?_ _ | refine blk_drew ?_ | refine blk_alloc ?_ _)); refine blk_far ?_ NB482_490.out _; (with_reducible repeat (first | refine blk_drewN ?_ _ | refine blk_drew ?_ | refine blk_alloc ?_ _)); exact BK482.out) hb); have n11_ := Aside0.mk (blk_below (g := gb490) (o := .cells #[.int .i64 t483, .slice Ao62 t484.length co62, .slice Ao63 t487.length co63] 31 (0, 0)) (by (with_reducible repeat (first | refine blk_drewN ?_ _ | refine blk_drew ?_ | refine blk_alloc ?_ _)); refine blk_put (cs := #[.int .i64 t483, .slice Ao62 t484.length co62, .slice none 0 0]) ?_ 2 _ rfl; (with_reducible repeat (first | refine blk_drewN ?_ _ | refine blk_drew ?_ | refine blk_alloc ?_ _)); refine blk_put (cs := #[.int .i64 t483, .slice none 0 0, .slice none 0 0]) ?_ 1 _ rfl; (with_reducible repeat (first | refine blk_drewN ?_ _ | refine blk_drew ?_ | refine blk_alloc ?_ _)); refine blk_put (cs := #[.int .i64 0, .slice none 0 0, .slice none 0 0]) ?_ 0 _ rfl; (with_reducible repeat (first | refine blk_drewN ?_ _ | refine blk_drew ?_ | refine blk_alloc ?_ _)); exact BK490.out) hb); have n12_ := bS HB hb; clear HO463; clear HO466; clear HO470; clear HO473; clear HO478; clear HO481; clear HO486; clear HO489; clear BK456; clear BK457; clear BK482; clear BK490; clear HB; have HO463 := n0_; have HO466 := n1_; have HO470 := n2_; have HO473 := n3_; have HO478 := n4_; have HO481 := n5_; have HO486 := n6_; have HO489 := n7_; have BK456 := n8_; have BK457 := n9_; have BK482 := n10_; have BK490 := n11_; have HB := n12_; clear n0_ n1_ n2_ n3_ n4_ n5_ n6_ n7_ n8_ n9_ n10_ n11_ n12_; (try clear hb)))
      have n0_ := Aside0.mk (Kd.R_drew HO463.out)
      have n1_ := Aside0.mk (Kd.R_drew HO466.out)
      have n2_ := Aside0.mk (Kd.R_drew HO470.out)
      have n3_ := Aside0.mk (Kd.R_drew HO473.out)
      have n4_ := Aside0.mk (Kd.R_drew HO478.out)
      have n5_ := Aside0.mk (Kd.R_drew HO481.out)
      have n6_ := Aside0.mk (Kd.R_drew HO486.out)
      have n7_ := Aside0.mk (Kd.R_drew HO489.out)
      have n8_ := Aside0.mk (blk_drew BK456.out)
      have n9_ := Aside0.mk (blk_drew BK457.out)
      have n10_ := Aside0.mk (blk_drew BK482.out)
      have n11_ := Aside0.mk (blk_drew BK490.out)
      have n12_ := Aside0.mk (below_drew1 HB.out)
      clear HO463
      clear HO466
      clear HO470
      clear HO473
      clear HO478
      clear HO481
      clear HO486
      clear HO489
      clear BK456
      clear BK457
      clear BK482
      clear BK490
      clear HB
      have HO463 := n0_
      have HO466 := n1_
      have HO470 := n2_
      have HO473 := n3_
      have HO478 := n4_
      have HO481 := n5_
      have HO486 := n6_
      have HO489 := n7_
      have BK456 := n8_
      have BK457 := n9_
      have BK482 := n10_
      have BK490 := n11_
      have HB := n12_
      clear n0_ n1_ n2_ n3_ n4_ n5_ n6_ n7_ n8_ n9_ n10_ n11_ n12_
      refine start_ (n := 5) (S := fun w' => w'.cell? ⟨gb482, 0, none⟩ = some (.int .i64 t475) ∧ w'.cell? ⟨gb482, 1, none⟩ = some (.slice Ao53 t476.length co53) ∧ w'.cell? ⟨gb482, 2, none⟩ = some (.slice Ao54 t479.length co54) ∧ w'.cell? ⟨gb456, 0, none⟩ = some (.int .i64 a0_0) ∧ w'.cell? ⟨gb456, 1, none⟩ = some (.slice A0_1 l0_1.length c0_1) ∧ w'.cell? ⟨gb456, 2, none⟩ = some (.slice A0_2 l0_2.length c0_2)) (ds := []) #[false, false, false, false, false] (by kernel_rfl) rfl rfl ⟨bc0 BK482, bc1 BK482, bc2 BK482, bc0 BK456, bc1 BK456, bc2 BK456⟩ (fun hHeld => ?_)
      generalize w65.drew = w66 at HO463 HO466 HO470 HO473 HO478 HO481 HO486 HO489 BK456 BK457 BK482 BK490 HB hHeld ⊢
      refine take_ (i := 0) (N := some 35) (v := ?_) (a' := ?_) #[true, false, false, false, false] rfl rfl (by kernel_rfl) (fun _ _ _ h => h) (Or.inl ⟨by rfl, ?_⟩) hHeld ?_ ?_
      rotate_left
      ·rintro w' ⟨s0, s1, s2, s3, s4, s5⟩
       go_simp
       with_reducible rfl
      rotate_left
      ·simp only [Act.put, List.setIfInBounds_toArray, List.set_cons_zero, List.set_cons_succ, i64_w, i32_w]
       rfl
      refine take_ (i := 1) (N := some 36) (v := ?_) (a' := ?_) #[true, true, false, false, false] rfl rfl (by kernel_rfl) (fun _ _ _ h => h) (Or.inl ⟨by rfl, ?_⟩) hHeld ?_ ?_
      rotate_left
      ·rintro w' ⟨s0, s1, s2, s3, s4, s5⟩
       go_simp
       with_reducible rfl
      rotate_left
      ·simp only [Act.put, List.setIfInBounds_toArray, List.set_cons_zero, List.set_cons_succ, i64_w, i32_w]
       rfl
      refine one_ (i := 2) (N := some 37) #[true, true, true, false, false] rfl rfl (by kernel_rfl) (by decide) (fun K hK => ?_)
      refine goes_ Try.func11 (by kernel_rfl) rfl #[.agg #[.int .i64 a0_0, .slice A0_1 l0_1.length c0_1, .slice A0_2 l0_2.length c0_2]] (by rfl) rfl rfl zG ?_
      with_reducible refine (laws_toMachine.calls k a0_0 _ _ l0_1 _ _ l0_2 t492 t493 t496 _ ?side1 ?side2 ?side3 ?side4 A26.out).mono ?_
      (case side1 => exact cS HR0_1 HB)
      (case side2 => exact HC0_1.out)
      (case side3 => exact cS HR0_2 HB)
      (case side4 => exact HC0_2.out)
      rintro e w67 ⟨v494, v497, rfl, ho0, ho1, hb⟩
      refine ⟨_, rfl, ?_⟩
      have n0_ := Aside0.mk (Kd.R_elder' (zR HO463) (Kd.R_base ho0) hb)
      have n1_ := Aside0.mk (Kd.R_elder' (zR HO466) (Kd.R_base ho1) hb)
      have n2_ := Aside0.mk (Kd.R_elder' (zR HO470) (Kd.R_base ho0) hb)
      have n3_ := Aside0.mk (Kd.R_elder' (zR HO473) (Kd.R_base ho1) hb)
      have n4_ := Aside0.mk (Kd.R_elder' (zR HO478) (Kd.R_base ho0) hb)
      have n5_ := Aside0.mk (Kd.R_elder' (zR HO481) (Kd.R_base ho1) hb)
      have n6_ := Aside0.mk (Kd.R_elder' (zR HO486) (Kd.R_base ho0) hb)
      have n7_ := Aside0.mk (Kd.R_elder' (zR HO489) (Kd.R_base ho1) hb)
      have n8_ := Aside0.mk (Kd.R_lower (Kd.R_new' (Kd.R_new' (Kd.R_new' (Kd.R_new' ho0 (Kd.R_lt (zR HO463))) (Kd.R_lt (zR HO470))) (Kd.R_lt (zR HO478))) (Kd.R_lt (zR HO486))) (below_size (zB HB)))
      have n9_ := Aside0.mk (Kd.R_lower (Kd.R_new' (Kd.R_new' (Kd.R_new' (Kd.R_new' ho1 (Kd.R_lt (zR HO466))) (Kd.R_lt (zR HO473))) (Kd.R_lt (zR HO481))) (Kd.R_lt (zR HO489))) (below_size (zB HB)))
      have n10_ := kB BK456 hb
      have n11_ := kB BK457 hb
      have n12_ := kB BK482 hb
      have n13_ := kB BK490 hb
      have n14_ := bS HB hb
      clear HO463
      clear HO466
      clear HO470
      clear HO473
      clear HO478
      clear HO481
      clear HO486
      clear HO489
      clear BK456
      clear BK457
      clear BK482
      clear BK490
      clear HB
      have HO463 := n0_
      have HO466 := n1_
      have HO470 := n2_
      have HO473 := n3_
      have HO478 := n4_
      have HO481 := n5_
      have HO486 := n6_
      have HO489 := n7_
      have HO495 := n8_
      have HO498 := n9_
      have BK456 := n10_
      have BK457 := n11_
      have BK482 := n12_
      have BK490 := n13_
      have HB := n14_
      clear n0_ n1_ n2_ n3_ n4_ n5_ n6_ n7_ n8_ n9_ n10_ n11_ n12_ n13_ n14_
      (try clear hb)
      (try clear hb2)
      (try clear hk)
      (try clear hi)
      (try clear ho0)
      (try clear ho1)
      obtain ⟨Ao68, co68, eo68⟩ := Kd.R_slice HO495.out
      (first | subst eo68 | (injection eo68 with f1_ f2_ f3_; have f4_ := f1_.symm; have f5_ := f3_.symm; clear f1_ f2_ f3_; subst f4_; subst f5_))
      obtain ⟨Ao69, co69, eo69⟩ := Kd.R_slice HO498.out
      (first | subst eo69 | (injection eo69 with f1_ f2_ f3_; have f4_ := f1_.symm; have f5_ := f3_.symm; clear f1_ f2_ f3_; subst f4_; subst f5_))
      refine hK.out _ _ ⟨bc0 BK482, bc1 BK482, bc2 BK482, bc0 BK456, bc1 BK456, bc2 BK456⟩ (fun hHeld => ?_)
      clear hK K
      refine norm_ (a' := ?_) ?_ ?_
      rotate_left
      ·show Act.put _ (some 37) _ = _
       simp only [Act.put, List.setIfInBounds_toArray, List.set_cons_zero, List.set_cons_succ, i64_w, i32_w]
       rfl
      refine one_ (i := 3) (N := some 38) #[true, true, true, true, false] rfl rfl (by kernel_rfl) (by decide) (fun K hK => ?_)
      refine goes_ Try.func14 (by kernel_rfl) rfl #[.agg #[.int .i64 t475, .slice Ao53 t476.length co53, .slice Ao54 t479.length co54], .agg #[.int .i64 t492, .slice Ao68 t493.length co68, .slice Ao69 t496.length co69]] (by rfl) rfl rfl zG ?_
      with_reducible refine (laws_eqMachine.calls k t475 _ _ t476 _ _ t479 t492 _ _ t493 _ _ t496 true _ ?side1 ?side2 ?side3 ?side4 ?side5 ?side6 ?side7 ?side8 A27.out).mono ?_
      (case side1 => repeat (first | exact (Kd.R_reads' HO478.out).2.2 | (with_reducible refine Kd.C_alloc ?_ _) | (with_reducible refine Kd.C_drewN ?_ _) | (with_reducible refine Kd.C_drew ?_)))
      (case side2 => exact (Kd.R_reads' HO478.out).2.1)
      (case side3 => repeat (first | exact (Kd.R_reads' HO481.out).2.2 | (with_reducible refine Kd.C_alloc ?_ _) | (with_reducible refine Kd.C_drewN ?_ _) | (with_reducible refine Kd.C_drew ?_)))
      (case side4 => exact (Kd.R_reads' HO481.out).2.1)
      (case side5 => repeat (first | exact (Kd.R_reads' HO495.out).2.2 | (with_reducible refine Kd.C_alloc ?_ _) | (with_reducible refine Kd.C_drewN ?_ _) | (with_reducible refine Kd.C_drew ?_)))
      (case side6 => exact (Kd.R_reads' HO495.out).2.1)
      (case side7 => repeat (first | exact (Kd.R_reads' HO498.out).2.2 | (with_reducible refine Kd.C_alloc ?_ _) | (with_reducible refine Kd.C_drewN ?_ _) | (with_reducible refine Kd.C_drew ?_)))
      (case side8 => exact (Kd.R_reads' HO498.out).2.1)
      rintro e w70 ⟨rfl, hb⟩
      refine ⟨_, rfl, ?_⟩
      have n0_ := Aside0.mk (Kd.R_below (zR HO463) hb)
      have n1_ := Aside0.mk (Kd.R_below (zR HO466) hb)
      have n2_ := Aside0.mk (Kd.R_below (zR HO470) hb)
      have n3_ := Aside0.mk (Kd.R_below (zR HO473) hb)
      have n4_ := Aside0.mk (Kd.R_below (zR HO478) hb)
      have n5_ := Aside0.mk (Kd.R_below (zR HO481) hb)
      have n6_ := Aside0.mk (Kd.R_below (zR HO486) hb)
      have n7_ := Aside0.mk (Kd.R_below (zR HO489) hb)
      have n8_ := Aside0.mk (Kd.R_below (zR HO495) hb)
      have n9_ := Aside0.mk (Kd.R_below (zR HO498) hb)
      have n10_ := kB BK456 hb
      have n11_ := kB BK457 hb
      have n12_ := kB BK482 hb
      have n13_ := kB BK490 hb
      have n14_ := bS HB hb
      clear HO463
      clear HO466
      clear HO470
      clear HO473
      clear HO478
      clear HO481
      clear HO486
      clear HO489
      clear HO495
      clear HO498
      clear BK456
      clear BK457
      clear BK482
      clear BK490
      clear HB
      have HO463 := n0_
      have HO466 := n1_
      have HO470 := n2_
      have HO473 := n3_
      have HO478 := n4_
      have HO481 := n5_
      have HO486 := n6_
      have HO489 := n7_
      have HO495 := n8_
      have HO498 := n9_
      have BK456 := n10_
      have BK457 := n11_
      have BK482 := n12_
      have BK490 := n13_
      have HB := n14_
      clear n0_ n1_ n2_ n3_ n4_ n5_ n6_ n7_ n8_ n9_ n10_ n11_ n12_ n13_ n14_
      (try clear hb)
      (try clear hb2)
      (try clear hk)
      (try clear hi)
      refine hK.out _ _ ⟨bc0 BK482, bc1 BK482, bc2 BK482, bc0 BK456, bc1 BK456, bc2 BK456⟩ (fun hHeld => ?_)
      clear hK K
      refine norm_ (a' := ?_) ?_ ?_
      rotate_left
      ·show Act.put _ (some 38) _ = _
       simp only [Act.put, List.setIfInBounds_toArray, List.set_cons_zero, List.set_cons_succ, i64_w, i32_w]
       rfl
      refine pure_ (i := 4) (N := some 39) (v := ?_) (a' := ?_) #[true, true, true, true, true] rfl rfl (by kernel_rfl) (fun _ _ _ h => h) (Or.inl ⟨by rfl, ?_⟩) ?_ ?_
      rotate_left
      ·intro w'
       go_simp
       with_reducible rfl
      rotate_left
      ·simp only [Act.put, List.setIfInBounds_toArray, List.set_cons_zero, List.set_cons_succ, i64_w, i32_w]
       rfl
      refine done_ (by kernel_rfl) ?_
      try clear hHeld
      try go_wp2
      have n0_ := Aside0.mk (Kd.R_drew HO463.out)
      have n1_ := Aside0.mk (Kd.R_drew HO466.out)
      have n2_ := Aside0.mk (Kd.R_drew HO470.out)
      have n3_ := Aside0.mk (Kd.R_drew HO473.out)
      have n4_ := Aside0.mk (Kd.R_drew HO478.out)
      have n5_ := Aside0.mk (Kd.R_drew HO481.out)
      have n6_ := Aside0.mk (Kd.R_drew HO486.out)
      have n7_ := Aside0.mk (Kd.R_drew HO489.out)
      have n8_ := Aside0.mk (Kd.R_drew HO495.out)
      have n9_ := Aside0.mk (Kd.R_drew HO498.out)
      have n10_ := Aside0.mk (blk_drew BK456.out)
      have n11_ := Aside0.mk (blk_drew BK457.out)
      have n12_ := Aside0.mk (blk_drew BK482.out)
      have n13_ := Aside0.mk (blk_drew BK490.out)
      have n14_ := Aside0.mk (below_drew1 HB.out)
      clear HO463
      clear HO466
      clear HO470
      clear HO473
      clear HO478
      clear HO481
      clear HO486
      clear HO489
      clear HO495
      clear HO498
      clear BK456
      clear BK457
      clear BK482
      clear BK490
      clear HB
      have HO463 := n0_
      have HO466 := n1_
      have HO470 := n2_
      have HO473 := n3_
      have HO478 := n4_
      have HO481 := n5_
      have HO486 := n6_
      have HO489 := n7_
      have HO495 := n8_
      have HO498 := n9_
      have BK456 := n10_
      have BK457 := n11_
      have BK482 := n12_
      have BK490 := n13_
      have HB := n14_
      clear n0_ n1_ n2_ n3_ n4_ n5_ n6_ n7_ n8_ n9_ n10_ n11_ n12_ n13_ n14_
      refine start_ (n := 5) (S := fun w' => w'.cell? ⟨gb490, 0, none⟩ = some (.int .i64 t483) ∧ w'.cell? ⟨gb490, 1, none⟩ = some (.slice Ao62 t484.length co62) ∧ w'.cell? ⟨gb490, 2, none⟩ = some (.slice Ao63 t487.length co63) ∧ w'.cell? ⟨gb457, 0, none⟩ = some (.int .i64 a1_0) ∧ w'.cell? ⟨gb457, 1, none⟩ = some (.slice A1_1 l1_1.length c1_1) ∧ w'.cell? ⟨gb457, 2, none⟩ = some (.slice A1_2 l1_2.length c1_2)) (ds := []) #[false, false, false, false, false] (by kernel_rfl) rfl rfl ⟨bc0 BK490, bc1 BK490, bc2 BK490, bc0 BK457, bc1 BK457, bc2 BK457⟩ (fun hHeld => ?_)
      generalize w70.drew = w71 at HO463 HO466 HO470 HO473 HO478 HO481 HO486 HO489 HO495 HO498 BK456 BK457 BK482 BK490 HB hHeld ⊢
      refine take_ (i := 0) (N := some 40) (v := ?_) (a' := ?_) #[true, false, false, false, false] rfl rfl (by kernel_rfl) (fun _ _ _ h => h) (Or.inl ⟨by rfl, ?_⟩) hHeld ?_ ?_
      rotate_left
      ·rintro w' ⟨s0, s1, s2, s3, s4, s5⟩
       go_simp
       with_reducible rfl
      rotate_left
      ·simp only [Act.put, List.setIfInBounds_toArray, List.set_cons_zero, List.set_cons_succ, i64_w, i32_w]
       rfl
      refine take_ (i := 1) (N := some 41) (v := ?_) (a' := ?_) #[true, true, false, false, false] rfl rfl (by kernel_rfl) (fun _ _ _ h => h) (Or.inl ⟨by rfl, ?_⟩) hHeld ?_ ?_
      rotate_left
      ·rintro w' ⟨s0, s1, s2, s3, s4, s5⟩
       go_simp
       with_reducible rfl
      rotate_left
      ·simp only [Act.put, List.setIfInBounds_toArray, List.set_cons_zero, List.set_cons_succ, i64_w, i32_w]
       rfl
      refine one_ (i := 2) (N := some 42) #[true, true, true, false, false] rfl rfl (by kernel_rfl) (by decide) (fun K hK => ?_)
      refine goes_ Try.func11 (by kernel_rfl) rfl #[.agg #[.int .i64 a1_0, .slice A1_1 l1_1.length c1_1, .slice A1_2 l1_2.length c1_2]] (by rfl) rfl rfl zG ?_
      with_reducible refine (laws_toMachine.calls k a1_0 _ _ l1_1 _ _ l1_2 t500 t501 t504 _ ?side1 ?side2 ?side3 ?side4 A29.out).mono ?_
      (case side1 => exact cS HR1_1 HB)
      (case side2 => exact HC1_1.out)
      (case side3 => exact cS HR1_2 HB)
      (case side4 => exact HC1_2.out)
      rintro e w72 ⟨v502, v505, rfl, ho0, ho1, hb⟩
      refine ⟨_, rfl, ?_⟩
      have n0_ := Aside0.mk (Kd.R_elder' (zR HO463) (Kd.R_base ho0) hb)
      have n1_ := Aside0.mk (Kd.R_elder' (zR HO466) (Kd.R_base ho1) hb)
      have n2_ := Aside0.mk (Kd.R_elder' (zR HO470) (Kd.R_base ho0) hb)
      have n3_ := Aside0.mk (Kd.R_elder' (zR HO473) (Kd.R_base ho1) hb)
      have n4_ := Aside0.mk (Kd.R_elder' (zR HO478) (Kd.R_base ho0) hb)
      have n5_ := Aside0.mk (Kd.R_elder' (zR HO481) (Kd.R_base ho1) hb)
      have n6_ := Aside0.mk (Kd.R_elder' (zR HO486) (Kd.R_base ho0) hb)
      have n7_ := Aside0.mk (Kd.R_elder' (zR HO489) (Kd.R_base ho1) hb)
      have n8_ := Aside0.mk (Kd.R_elder' (zR HO495) (Kd.R_base ho0) hb)
      have n9_ := Aside0.mk (Kd.R_elder' (zR HO498) (Kd.R_base ho1) hb)
      have n10_ := Aside0.mk (Kd.R_lower (Kd.R_new' (Kd.R_new' (Kd.R_new' (Kd.R_new' (Kd.R_new' ho0 (Kd.R_lt (zR HO463))) (Kd.R_lt (zR HO470))) (Kd.R_lt (zR HO478))) (Kd.R_lt (zR HO486))) (Kd.R_lt (zR HO495))) (below_size (zB HB)))
      have n11_ := Aside0.mk (Kd.R_lower (Kd.R_new' (Kd.R_new' (Kd.R_new' (Kd.R_new' (Kd.R_new' ho1 (Kd.R_lt (zR HO466))) (Kd.R_lt (zR HO473))) (Kd.R_lt (zR HO481))) (Kd.R_lt (zR HO489))) (Kd.R_lt (zR HO498))) (below_size (zB HB)))
      have n12_ := kB BK456 hb
      have n13_ := kB BK457 hb
      have n14_ := kB BK482 hb
      have n15_ := kB BK490 hb
      have n16_ := bS HB hb
      clear HO463
      clear HO466
      clear HO470
      clear HO473
      clear HO478
      clear HO481
      clear HO486
      clear HO489
      clear HO495
      clear HO498
      clear BK456
      clear BK457
      clear BK482
      clear BK490
      clear HB
      have HO463 := n0_
      have HO466 := n1_
      have HO470 := n2_
      have HO473 := n3_
      have HO478 := n4_
      have HO481 := n5_
      have HO486 := n6_
      have HO489 := n7_
      have HO495 := n8_
      have HO498 := n9_
      have HO503 := n10_
      have HO506 := n11_
      have BK456 := n12_
      have BK457 := n13_
      have BK482 := n14_
      have BK490 := n15_
      have HB := n16_
      clear n0_ n1_ n2_ n3_ n4_ n5_ n6_ n7_ n8_ n9_ n10_ n11_ n12_ n13_ n14_ n15_ n16_
      (try clear hb)
      (try clear hb2)
      (try clear hk)
      (try clear hi)
      (try clear ho0)
      (try clear ho1)
      obtain ⟨Ao73, co73, eo73⟩ := Kd.R_slice HO503.out
      (first | subst eo73 | (injection eo73 with f1_ f2_ f3_; have f4_ := f1_.symm; have f5_ := f3_.symm; clear f1_ f2_ f3_; subst f4_; subst f5_))
      obtain ⟨Ao74, co74, eo74⟩ := Kd.R_slice HO506.out
      (first | subst eo74 | (injection eo74 with f1_ f2_ f3_; have f4_ := f1_.symm; have f5_ := f3_.symm; clear f1_ f2_ f3_; subst f4_; subst f5_))
      refine hK.out _ _ ⟨bc0 BK490, bc1 BK490, bc2 BK490, bc0 BK457, bc1 BK457, bc2 BK457⟩ (fun hHeld => ?_)
      clear hK K
      refine norm_ (a' := ?_) ?_ ?_
      rotate_left
      ·show Act.put _ (some 42) _ = _
       simp only [Act.put, List.setIfInBounds_toArray, List.set_cons_zero, List.set_cons_succ, i64_w, i32_w]
       rfl
      refine one_ (i := 3) (N := some 43) #[true, true, true, true, false] rfl rfl (by kernel_rfl) (by decide) (fun K hK => ?_)
      refine goes_ Try.func14 (by kernel_rfl) rfl #[.agg #[.int .i64 t483, .slice Ao62 t484.length co62, .slice Ao63 t487.length co63], .agg #[.int .i64 t500, .slice Ao73 t501.length co73, .slice Ao74 t504.length co74]] (by rfl) rfl rfl zG ?_
      with_reducible refine (laws_eqMachine.calls k t483 _ _ t484 _ _ t487 t500 _ _ t501 _ _ t504 true _ ?side1 ?side2 ?side3 ?side4 ?side5 ?side6 ?side7 ?side8 A30.out).mono ?_
      (case side1 => repeat (first | exact (Kd.R_reads' HO486.out).2.2 | (with_reducible refine Kd.C_alloc ?_ _) | (with_reducible refine Kd.C_drewN ?_ _) | (with_reducible refine Kd.C_drew ?_)))
      (case side2 => exact (Kd.R_reads' HO486.out).2.1)
      (case side3 => repeat (first | exact (Kd.R_reads' HO489.out).2.2 | (with_reducible refine Kd.C_alloc ?_ _) | (with_reducible refine Kd.C_drewN ?_ _) | (with_reducible refine Kd.C_drew ?_)))
      (case side4 => exact (Kd.R_reads' HO489.out).2.1)
      (case side5 => repeat (first | exact (Kd.R_reads' HO503.out).2.2 | (with_reducible refine Kd.C_alloc ?_ _) | (with_reducible refine Kd.C_drewN ?_ _) | (with_reducible refine Kd.C_drew ?_)))
      (case side6 => exact (Kd.R_reads' HO503.out).2.1)
      (case side7 => repeat (first | exact (Kd.R_reads' HO506.out).2.2 | (with_reducible refine Kd.C_alloc ?_ _) | (with_reducible refine Kd.C_drewN ?_ _) | (with_reducible refine Kd.C_drew ?_)))
      (case side8 => exact (Kd.R_reads' HO506.out).2.1)
      rintro e w75 ⟨rfl, hb⟩
      refine ⟨_, rfl, ?_⟩
      have n0_ := Aside0.mk (Kd.R_below (zR HO463) hb)
      have n1_ := Aside0.mk (Kd.R_below (zR HO466) hb)
      have n2_ := Aside0.mk (Kd.R_below (zR HO470) hb)
      have n3_ := Aside0.mk (Kd.R_below (zR HO473) hb)
      have n4_ := Aside0.mk (Kd.R_below (zR HO478) hb)
      have n5_ := Aside0.mk (Kd.R_below (zR HO481) hb)
      have n6_ := Aside0.mk (Kd.R_below (zR HO486) hb)
      have n7_ := Aside0.mk (Kd.R_below (zR HO489) hb)
      have n8_ := Aside0.mk (Kd.R_below (zR HO495) hb)
      have n9_ := Aside0.mk (Kd.R_below (zR HO498) hb)
      have n10_ := Aside0.mk (Kd.R_below (zR HO503) hb)
      have n11_ := Aside0.mk (Kd.R_below (zR HO506) hb)
      have n12_ := kB BK456 hb
      have n13_ := kB BK457 hb
      have n14_ := kB BK482 hb
      have n15_ := kB BK490 hb
      have n16_ := bS HB hb
      clear HO463
      clear HO466
      clear HO470
      clear HO473
      clear HO478
      clear HO481
      clear HO486
      clear HO489
      clear HO495
      clear HO498
      clear HO503
      clear HO506
      clear BK456
      clear BK457
      clear BK482
      clear BK490
      clear HB
      have HO463 := n0_
      have HO466 := n1_
      have HO470 := n2_
      have HO473 := n3_
      have HO478 := n4_
      have HO481 := n5_
      have HO486 := n6_
      have HO489 := n7_
      have HO495 := n8_
      have HO498 := n9_
      have HO503 := n10_
      have HO506 := n11_
      have BK456 := n12_
      have BK457 := n13_
      have BK482 := n14_
      have BK490 := n15_
      have HB := n16_
      clear n0_ n1_ n2_ n3_ n4_ n5_ n6_ n7_ n8_ n9_ n10_ n11_ n12_ n13_ n14_ n15_ n16_
      (try clear hb)
      (try clear hb2)
      (try clear hk)
      (try clear hi)
      refine hK.out _ _ ⟨bc0 BK490, bc1 BK490, bc2 BK490, bc0 BK457, bc1 BK457, bc2 BK457⟩ (fun hHeld => ?_)
      clear hK K
      refine norm_ (a' := ?_) ?_ ?_
      rotate_left
      ·show Act.put _ (some 43) _ = _
       simp only [Act.put, List.setIfInBounds_toArray, List.set_cons_zero, List.set_cons_succ, i64_w, i32_w]
       rfl
      refine pure_ (i := 4) (N := some 44) (v := ?_) (a' := ?_) #[true, true, true, true, true] rfl rfl (by kernel_rfl) (fun _ _ _ h => h) (Or.inl ⟨by rfl, ?_⟩) ?_ ?_
      rotate_left
      ·intro w'
       go_simp
       with_reducible rfl
      rotate_left
      ·simp only [Act.put, List.setIfInBounds_toArray, List.set_cons_zero, List.set_cons_succ, i64_w, i32_w]
       rfl
      refine done_ (by kernel_rfl) ?_
      try clear hHeld
      try go_wp2
      go_ret
      exact ⟨by first | rfl | (simp [errW_none, errW_some] <;> rfl) | (simp [*, errW_none, errW_some] <;> rfl), by repeat (first | (with_reducible first | exact HB.out | apply below_alloc | apply pw_below_drewN | apply below_drew1 | refine below_set ?_ GE456.out | refine below_set ?_ GE457.out | refine below_set ?_ GE482.out | refine below_set ?_ GE490.out) | exact HB.out)⟩
     ·replace c31 := Bool.eq_false_iff.mpr c31
      subst c31
      have H1 : (some false) = some r := by rw [if_neg (show ¬ (false = true) by decide)] at H; exact H
      clear H
      have H := H1
      clear H1
      exact absurd H (by simp [ht_])
    ·replace c28 := Bool.eq_false_iff.mpr c28
     subst c28
     have H1 : (some false) = some r := by rw [if_neg (show ¬ (false = true) by decide)] at H; exact H
     clear H
     have H := H1
     clear H1
     exact absurd H (by simp [ht_])
/-- What is known of a value of type 69 that came in. -/
def W69 (x : S69) : Prop := (Lit.int .i64 x.f0).wf = true ∧ True ∧ (Lit.int .i64 x.f2).wf = true ∧ (Lit.int .i64 x.f3).wf = true

/-- The pure statement of laws_FnExactFollows. -/
def laws_FnExactFollows.Pure : Prop := ∀ (a0_0 : Int) (l0_1 : List Bool) (l0_2 : List (S69)) (a1_0 : Int) (l1_1 : List Bool) (l1_2 : List (S69)), (Lit.int .i64 a0_0).wf = true → l0_1.length ≤ 9223372036854775807 → (∀ x ∈ l0_1, True) → l0_2.length ≤ 9223372036854775807 → (∀ x ∈ l0_2, W69 x) → (Lit.int .i64 a1_0).wf = true → l1_1.length ≤ 9223372036854775807 → (∀ x ∈ l1_1, True) → l1_2.length ≤ 9223372036854775807 → (∀ x ∈ l1_2, W69 x) → ∃ k, laws_FnExactFollows.f k a0_0 l0_1 l0_2 a1_0 l1_1 l1_2 = some true

end Go.Proofs.Ytmenijbpglknbaa.PFnExactFollows
