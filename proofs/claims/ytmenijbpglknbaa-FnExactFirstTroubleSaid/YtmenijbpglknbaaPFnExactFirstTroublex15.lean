-- WRITTEN by pp.py, this session's own wrapper around the print; not trusted: Lean checks it
import Derived.Test.YtmenijbpglknbaaPFnExactFirstTroublex0
import Derived.Test.YtmenijbpglknbaaPFnExactFirstTroublex1
import Derived.Test.YtmenijbpglknbaaPFnExactFirstTroublex2
import Derived.Test.YtmenijbpglknbaaPFnExactFirstTroublex8
import Derived.Test.YtmenijbpglknbaaPFnExactFirstTroublex13
import Derived.Test.YtmenijbpglknbaaPFnExactFirstTroublex14
namespace Go.Proofs.Ytmenijbpglknbaa.PFnExactFirstTrouble
open Go.RowKit Go.Proofs.Ytmenijbpglknbaa.Hw Go.Proofs.YtmenijbpglknbaaW.PrintWords Go.Proofs.YtmenijbpglknbaaW.PrintLast Go.Proofs.YtmenijbpglknbaaW.PrintMore
attribute [local go_sem] max2_int min2_int max_two min_two max_three min_three max_four min_four   -- for this text's walks alone
set_option linter.unusedVariables false
set_option linter.unusedSimpArgs false
set_option linter.unusedSectionVars false

/-! ### laws_FnExactFirstTrouble: function 5 -/
def laws_FnExactFirstTrouble.j0 : Nat → List Int → List Int → Bool → Int → List Bool → List (S69) → Int → List Bool → List (S69) → Option (Bool)
 | 0, _, _, _, _, _, _, _, _, _ => none
 | k + 1, x6, x9, x63, x439000, x439001, x439002, x440000, x440001, x440002 => if x63 = true then (some false) else ((laws_markIntS.f k x9 1).bind fun bt502 => ((laws_heldIntS.f k bt502.2 1).bind fun t504 => (if t504 < 0 then (some false) else (if t504 = bt502.1 then ((laws_toMachine.f k x439000 x439001 x439002).bind fun bt505 => ((laws_toMachine.f k x440000 x440001 x440002).bind fun bt512 => ((impl_FirstTrouble.f k bt505.1 bt505.2.1 bt505.2.2 bt512.1 bt512.2.1 bt512.2.2).bind fun t519 => ((laws_eqIntS.f k t519 x6).bind fun t522 => (if t522 = true then ((laws_heldIntS.f k bt502.2 1).bind fun t523 => (if t523 < 0 then (some false) else (if t523 = bt502.1 then (some true) else (some false)))) else (some false)))))) else (some false)))))
def laws_FnExactFirstTrouble.f (k : Nat) (a0_0 : Int) (l0_1 : List Bool) (l0_2 : List (S69)) (a1_0 : Int) (l1_1 : List Bool) (l1_2 : List (S69)) : Option (Bool) := (laws_szMachine.f a0_0 l0_1 l0_2 1048576).bind fun t440 => (if t440 < 0 then (some true) else ((laws_szMachine.f a1_0 l1_1 l1_2 t440).bind fun t441 => (if t441 < 0 then (some true) else ((laws_toMachine.f k a0_0 l0_1 l0_2).bind fun bt442 => ((laws_toMachine.f k a1_0 l1_1 l1_2).bind fun bt449 => ((spec_FirstTrouble.f k bt442.1 bt442.2.1 bt442.2.2 bt449.1 bt449.2.1 bt449.2.2).bind fun t456 => ((laws_toMachine.f k a0_0 l0_1 l0_2).bind fun bt459 => ((laws_toMachine.f k a1_0 l1_1 l1_2).bind fun bt467 => ((impl_FirstTrouble.f k bt459.1 bt459.2.1 bt459.2.2 bt467.1 bt467.2.1 bt467.2.2).bind fun t475 => ((laws_eqIntS.f k t475 t456).bind fun t478 => (if t478 = true then ((laws_toMachine.f k a0_0 l0_1 l0_2).bind fun bt479 => ((laws_eqMachine.f k bt459.1 bt459.2.1 bt459.2.2 bt479.1 bt479.2.1 bt479.2.2).bind fun t486 => (if t486 = true then ((laws_toMachine.f k a1_0 l1_1 l1_2).bind fun bt487 => ((laws_eqMachine.f k bt467.1 bt467.2.1 bt467.2.2 bt487.1 bt487.2.1 bt487.2.2).bind fun t494 => (if t494 = true then ((laws_markMachine.f k bt459.1 bt459.2.1 bt459.2.2 1).bind fun bt495 => ((laws_markMachine.f k bt467.1 bt467.2.1 bt467.2.2 bt495.1).bind fun bt498 => (if bt498.1 < 0 then (laws_FnExactFirstTrouble.j0 k t456 t475 true a0_0 l0_1 l0_2 a1_0 l1_1 l1_2) else ((laws_eqIntS.f k t475 t456).bind fun t501 => (laws_FnExactFirstTrouble.j0 k t456 t475 (!t501) a0_0 l0_1 l0_2 a1_0 l1_1 l1_2))))) else (some false)))) else (some false)))) else (some false))))))))))))
theorem laws_FnExactFirstTrouble.mono_l : ∀ k, (∀ y0 y1 y2 y3 y4 y5 y6 y7 y8, LeO (laws_FnExactFirstTrouble.j0 k y0 y1 y2 y3 y4 y5 y6 y7 y8) (laws_FnExactFirstTrouble.j0 (k + 1) y0 y1 y2 y3 y4 y5 y6 y7 y8))
 | 0 => fun _ _ _ _ _ _ _ _ _ r h => by simp [laws_FnExactFirstTrouble.j0] at h
 | k + 1 => by
  have ih0 := laws_FnExactFirstTrouble.mono_l k
  ·intro y0 y1 y2 y3 y4 y5 y6 y7 y8
   unfold laws_FnExactFirstTrouble.j0
   repeat' first
   | (with_reducible exact ih0 _ _ _ _ _ _ _ _ _)
   | (with_reducible exact impl_FirstTrouble.mono _ _ _ _ _ _ _)
   | (with_reducible exact laws_eqIntS.mono _ _ _)
   | (with_reducible exact laws_eqMachine.mono _ _ _ _ _ _ _)
   | (with_reducible exact laws_heldIntS.mono _ _ _)
   | (with_reducible exact laws_markIntS.mono _ _ _)
   | (with_reducible exact laws_markMachine.mono _ _ _ _ _)
   | (with_reducible exact laws_toMachine.mono _ _ _ _)
   | (with_reducible exact spec_FirstTrouble.mono _ _ _ _ _ _ _)
   | (with_reducible exact LeO.refl _)
   | (with_reducible exact LeO.none _)
   | (with_reducible refine LeO.ite ?_ ?_)
   | (with_reducible refine LeO.bind ?_ (fun _ => ?_))
   | exact ih0 _ _ _ _ _ _ _ _ _
   | exact impl_FirstTrouble.mono _ _ _ _ _ _ _
   | exact laws_eqIntS.mono _ _ _
   | exact laws_eqMachine.mono _ _ _ _ _ _ _
   | exact laws_heldIntS.mono _ _ _
   | exact laws_markIntS.mono _ _ _
   | exact laws_markMachine.mono _ _ _ _ _
   | exact laws_toMachine.mono _ _ _ _
   | exact spec_FirstTrouble.mono _ _ _ _ _ _ _
   | exact LeO.none _
   | refine LeO.ite ?_ ?_
   | refine LeO.bind ?_ (fun _ => ?_)
theorem laws_FnExactFirstTrouble.mono : ∀ a0 a1 a2 a3 a4 a5 k, LeO (laws_FnExactFirstTrouble.f k a0 a1 a2 a3 a4 a5) (laws_FnExactFirstTrouble.f (k + 1) a0 a1 a2 a3 a4 a5) := by
 intro a0 a1 a2 a3 a4 a5 k
 have ih0 := laws_FnExactFirstTrouble.mono_l k
 unfold laws_FnExactFirstTrouble.f
 repeat' first
   | (with_reducible exact ih0 _ _ _ _ _ _ _ _ _)
   | (with_reducible exact impl_FirstTrouble.mono _ _ _ _ _ _ _)
   | (with_reducible exact laws_eqIntS.mono _ _ _)
   | (with_reducible exact laws_eqMachine.mono _ _ _ _ _ _ _)
   | (with_reducible exact laws_heldIntS.mono _ _ _)
   | (with_reducible exact laws_markIntS.mono _ _ _)
   | (with_reducible exact laws_markMachine.mono _ _ _ _ _)
   | (with_reducible exact laws_toMachine.mono _ _ _ _)
   | (with_reducible exact spec_FirstTrouble.mono _ _ _ _ _ _ _)
   | (with_reducible exact LeO.refl _)
   | (with_reducible exact LeO.none _)
   | (with_reducible refine LeO.ite ?_ ?_)
   | (with_reducible refine LeO.bind ?_ (fun _ => ?_))
   | exact ih0 _ _ _ _ _ _ _ _ _
   | exact impl_FirstTrouble.mono _ _ _ _ _ _ _
   | exact laws_eqIntS.mono _ _ _
   | exact laws_eqMachine.mono _ _ _ _ _ _ _
   | exact laws_heldIntS.mono _ _ _
   | exact laws_markIntS.mono _ _ _
   | exact laws_markMachine.mono _ _ _ _ _
   | exact laws_toMachine.mono _ _ _ _
   | exact spec_FirstTrouble.mono _ _ _ _ _ _ _
   | exact LeO.none _
   | refine LeO.ite ?_ ?_
   | refine LeO.bind ?_ (fun _ => ?_)
set_option maxHeartbeats 8000000 in
set_option maxRecDepth 100000 in
theorem laws_FnExactFirstTrouble.calls (k : Nat) (a0_0 : Int) (A0_1 : Option Addr) (c0_1 : Nat) (l0_1 : List Bool) (A0_2 : Option Addr) (c0_2 : Nat) (l0_2 : List (S69)) (a1_0 : Int) (A1_1 : Option Addr) (c1_1 : Nat) (l1_1 : List Bool) (A1_2 : Option Addr) (c1_2 : Nat) (l1_2 : List (S69)) (r : Bool) (w : World) (hr0_1 : Kd.C Kd.bool w A0_1 l0_1.length l0_1) (hc0_1 : l0_1.length ≤ c0_1) (hr0_2 : Kd.C k69 w A0_2 l0_2.length l0_2) (hc0_2 : l0_2.length ≤ c0_2) (hr1_1 : Kd.C Kd.bool w A1_1 l1_1.length l1_1) (hc1_1 : l1_1.length ≤ c1_1) (hr1_2 : Kd.C k69 w A1_2 l1_2.length l1_2) (hc1_2 : l1_2.length ≤ c1_2) (ht_ : r = true) (h : laws_FnExactFirstTrouble.f k a0_0 l0_1 l0_2 a1_0 l1_1 l1_2 = some r) :
  Calls Try.prog 5 #[.agg #[.int .i64 a0_0, .slice A0_1 l0_1.length c0_1, .slice A0_2 l0_2.length c0_2], .agg #[.int .i64 a1_0, .slice A1_1 l1_1.length c1_1, .slice A1_2 l1_2.length c1_2]] w fun e w' => e = .returned (.bool r) ∧ Below w.heap.size w w' := by
 have hu25 := Try.underlying25
 have hu31 := Try.underlying31
 have HR0_1 := Aside0.mk hr0_1
 have HC0_1 := Aside0.mk hc0_1
 clear hr0_1 hc0_1
 have HR0_2 := Aside0.mk hr0_2
 have HC0_2 := Aside0.mk hc0_2
 clear hr0_2 hc0_2
 have HR1_1 := Aside0.mk hr1_1
 have HC1_1 := Aside0.mk hc1_1
 clear hr1_1 hc1_1
 have HR1_2 := Aside0.mk hr1_2
 have HC1_2 := Aside0.mk hc1_2
 clear hr1_2 hc1_2
 have HB := Aside0.mk (Below.refl w.heap.size w)
 have H : ((laws_szMachine.f a0_0 l0_1 l0_2 1048576).bind fun t440 => (if t440 < 0 then (some true) else ((laws_szMachine.f a1_0 l1_1 l1_2 t440).bind fun t441 => (if t441 < 0 then (some true) else ((laws_toMachine.f k a0_0 l0_1 l0_2).bind fun bt442 => ((laws_toMachine.f k a1_0 l1_1 l1_2).bind fun bt449 => ((spec_FirstTrouble.f k bt442.1 bt442.2.1 bt442.2.2 bt449.1 bt449.2.1 bt449.2.2).bind fun t456 => ((laws_toMachine.f k a0_0 l0_1 l0_2).bind fun bt459 => ((laws_toMachine.f k a1_0 l1_1 l1_2).bind fun bt467 => ((impl_FirstTrouble.f k bt459.1 bt459.2.1 bt459.2.2 bt467.1 bt467.2.1 bt467.2.2).bind fun t475 => ((laws_eqIntS.f k t475 t456).bind fun t478 => (if t478 = true then ((laws_toMachine.f k a0_0 l0_1 l0_2).bind fun bt479 => ((laws_eqMachine.f k bt459.1 bt459.2.1 bt459.2.2 bt479.1 bt479.2.1 bt479.2.2).bind fun t486 => (if t486 = true then ((laws_toMachine.f k a1_0 l1_1 l1_2).bind fun bt487 => ((laws_eqMachine.f k bt467.1 bt467.2.1 bt467.2.2 bt487.1 bt487.2.1 bt487.2.2).bind fun t494 => (if t494 = true then ((laws_markMachine.f k bt459.1 bt459.2.1 bt459.2.2 1).bind fun bt495 => ((laws_markMachine.f k bt467.1 bt467.2.1 bt467.2.2 bt495.1).bind fun bt498 => (if bt498.1 < 0 then (laws_FnExactFirstTrouble.j0 k t456 t475 true a0_0 l0_1 l0_2 a1_0 l1_1 l1_2) else ((laws_eqIntS.f k t475 t456).bind fun t501 => (laws_FnExactFirstTrouble.j0 k t456 t475 (!t501) a0_0 l0_1 l0_2 a1_0 l1_1 l1_2))))) else (some false)))) else (some false)))) else (some false))))))))))))) = some r := h
 clear h
 obtain ⟨t440, A3, H⟩ := bindS H
 by_cases c4 : t440 < 0
 ·rw [if_pos c4] at H
  have c4b0 : decide (t440 < 0) = true := decide_eq_true c4
  clear c4
  obtain rfl := Option.some.inj H
  go_enter Try.func5, Try.ntmps5
  go_wp2_with (first | ((with_reducible refine gate_dst (N := 2) rfl ?_); refine box_event ?hg (N := 2) ?hd (cs := #[.int .i64 a0_0, .slice A0_1 l0_1.length c0_1, .slice A0_2 l0_2.length c0_2]) (t := 25) ?hr ?_; (case hd => rfl); (case hg => rfl); (case hr => first | (go_simp; done) | (go_simp; rfl)); intro gb438 hg w5 hbox hb; have BK438 := Aside0.mk (hbox); have GW438 := gS HB hg; have GE438 := gS HB hg; replace HB := bS HB hb; clear hb hbox hg) | ((with_reducible refine gate_dst (N := 3) rfl ?_); refine box_event ?hg (N := 3) ?hd (cs := #[.int .i64 a1_0, .slice A1_1 l1_1.length c1_1, .slice A1_2 l1_2.length c1_2]) (t := 25) ?hr ?_; (case hd => rfl); (case hg => rfl); (case hr => first | (go_simp; done) | (go_simp; rfl)); intro gb439 hg w6 hbox hb; have BK439 := Aside0.mk (hbox); have GW439 := gS HB hg; have GE439 := gS HB hg; replace HB := bS HB hb; have NB438_439 := nL BK438 hg; have NB439_438 := nR BK438 hg; replace BK438 := kB BK438 hb; clear hb hbox hg; have hnb7 := NB438_439.out; have hnc7 := NB439_438.out; have hcz8_0 := bc0 BK438; have hcz8_1 := bc1 BK438; have hcz8_2 := bc2 BK438; have hfz8_0 := bf BK438 0; have hfz8_1 := bf BK438 1; have hfz8_2 := bf BK438 2) | ((with_reducible refine gate_callee (f := 9) rfl ?_); refine goesL_ (some 16) rfl rfl Try.func9 (by kernel_rfl) rfl #[.agg #[.int .i64 a0_0, .slice A0_1 l0_1.length c0_1, .slice A0_2 l0_2.length c0_2], .int .i64 1048576] rfl zG ?_; (with_reducible refine (laws_szMachine.calls a0_0 _ _ l0_1 _ _ l0_2 1048576 t440 _ ?side1 ?side2 ?side3 ?side4 A3.out).mono ?_); (case side1 => exact cS HR0_1 HB); (case side2 => exact HC0_1.out); (case side3 => exact cS HR0_2 HB); (case side4 => exact HC0_2.out); rintro e w9 ⟨rfl, hb⟩; refine ⟨_, rfl, ?_⟩; replace BK438 := kB BK438 hb; replace BK439 := kB BK439 hb; replace HB := bS HB hb; (try clear hb)))
  go_ret
  exact ⟨zE, zB HB⟩
 ·rw [if_neg c4] at H
  have c4b0 : decide (t440 < 0) = false := decide_eq_false c4
  clear c4
  obtain ⟨t441, A10, H⟩ := bindS H
  by_cases c11 : t441 < 0
  ·rw [if_pos c11] at H
   have c11b0 : decide (t441 < 0) = true := decide_eq_true c11
   clear c11
   obtain rfl := Option.some.inj H
   go_enter Try.func5, Try.ntmps5
   go_wp2_with (first | ((with_reducible refine gate_dst (N := 2) rfl ?_); refine box_event ?hg (N := 2) ?hd (cs := #[.int .i64 a0_0, .slice A0_1 l0_1.length c0_1, .slice A0_2 l0_2.length c0_2]) (t := 25) ?hr ?_; (case hd => rfl); (case hg => rfl); (case hr => first | (go_simp; done) | (go_simp; rfl)); intro gb438 hg w12 hbox hb; have BK438 := Aside0.mk (hbox); have GW438 := gS HB hg; have GE438 := gS HB hg; replace HB := bS HB hb; clear hb hbox hg) | ((with_reducible refine gate_dst (N := 3) rfl ?_); refine box_event ?hg (N := 3) ?hd (cs := #[.int .i64 a1_0, .slice A1_1 l1_1.length c1_1, .slice A1_2 l1_2.length c1_2]) (t := 25) ?hr ?_; (case hd => rfl); (case hg => rfl); (case hr => first | (go_simp; done) | (go_simp; rfl)); intro gb439 hg w13 hbox hb; have BK439 := Aside0.mk (hbox); have GW439 := gS HB hg; have GE439 := gS HB hg; replace HB := bS HB hb; have NB438_439 := nL BK438 hg; have NB439_438 := nR BK438 hg; replace BK438 := kB BK438 hb; clear hb hbox hg; have hnb14 := NB438_439.out; have hnc14 := NB439_438.out; have hcz15_0 := bc0 BK438; have hcz15_1 := bc1 BK438; have hcz15_2 := bc2 BK438; have hfz15_0 := bf BK438 0; have hfz15_1 := bf BK438 1; have hfz15_2 := bf BK438 2) | ((with_reducible refine gate_callee (f := 9) rfl ?_); refine goesL_ (some 16) rfl rfl Try.func9 (by kernel_rfl) rfl #[.agg #[.int .i64 a0_0, .slice A0_1 l0_1.length c0_1, .slice A0_2 l0_2.length c0_2], .int .i64 1048576] rfl zG ?_; (with_reducible refine (laws_szMachine.calls a0_0 _ _ l0_1 _ _ l0_2 1048576 t440 _ ?side1 ?side2 ?side3 ?side4 A3.out).mono ?_); (case side1 => exact cS HR0_1 HB); (case side2 => exact HC0_1.out); (case side3 => exact cS HR0_2 HB); (case side4 => exact HC0_2.out); rintro e w16 ⟨rfl, hb⟩; refine ⟨_, rfl, ?_⟩; replace BK438 := kB BK438 hb; replace BK439 := kB BK439 hb; replace HB := bS HB hb; (try clear hb); have hcz17_0 := bc0 BK439; have hcz17_1 := bc1 BK439; have hcz17_2 := bc2 BK439; have hfz17_0 := bf BK439 0; have hfz17_1 := bf BK439 1; have hfz17_2 := bf BK439 2) | ((with_reducible refine gate_callee (f := 9) rfl ?_); refine goesL_ (some 21) rfl rfl Try.func9 (by kernel_rfl) rfl #[.agg #[.int .i64 a1_0, .slice A1_1 l1_1.length c1_1, .slice A1_2 l1_2.length c1_2], .int .i64 t440] rfl zG ?_; (with_reducible refine (laws_szMachine.calls a1_0 _ _ l1_1 _ _ l1_2 t440 t441 _ ?side1 ?side2 ?side3 ?side4 A10.out).mono ?_); (case side1 => exact cS HR1_1 HB); (case side2 => exact HC1_1.out); (case side3 => exact cS HR1_2 HB); (case side4 => exact HC1_2.out); rintro e w18 ⟨rfl, hb⟩; refine ⟨_, rfl, ?_⟩; replace BK438 := kB BK438 hb; replace BK439 := kB BK439 hb; replace HB := bS HB hb; (try clear hb)))
   go_ret
   exact ⟨zE, zB HB⟩
  ·rw [if_neg c11] at H
   have c11b0 : decide (t441 < 0) = false := decide_eq_false c11
   clear c11
   replace H := Option.bind_eq_some_iff.mp H
   obtain ⟨⟨t442, t443, t446⟩, A190, H⟩ := H
   replace H : ((laws_toMachine.f k a1_0 l1_1 l1_2).bind fun bt449 => ((spec_FirstTrouble.f k t442 t443 t446 bt449.1 bt449.2.1 bt449.2.2).bind fun t456 => ((laws_toMachine.f k a0_0 l0_1 l0_2).bind fun bt459 => ((laws_toMachine.f k a1_0 l1_1 l1_2).bind fun bt467 => ((impl_FirstTrouble.f k bt459.1 bt459.2.1 bt459.2.2 bt467.1 bt467.2.1 bt467.2.2).bind fun t475 => ((laws_eqIntS.f k t475 t456).bind fun t478 => (if t478 = true then ((laws_toMachine.f k a0_0 l0_1 l0_2).bind fun bt479 => ((laws_eqMachine.f k bt459.1 bt459.2.1 bt459.2.2 bt479.1 bt479.2.1 bt479.2.2).bind fun t486 => (if t486 = true then ((laws_toMachine.f k a1_0 l1_1 l1_2).bind fun bt487 => ((laws_eqMachine.f k bt467.1 bt467.2.1 bt467.2.2 bt487.1 bt487.2.1 bt487.2.2).bind fun t494 => (if t494 = true then ((laws_markMachine.f k bt459.1 bt459.2.1 bt459.2.2 1).bind fun bt495 => ((laws_markMachine.f k bt467.1 bt467.2.1 bt467.2.2 bt495.1).bind fun bt498 => (if bt498.1 < 0 then (laws_FnExactFirstTrouble.j0 k t456 t475 true a0_0 l0_1 l0_2 a1_0 l1_1 l1_2) else ((laws_eqIntS.f k t475 t456).bind fun t501 => (laws_FnExactFirstTrouble.j0 k t456 t475 (!t501) a0_0 l0_1 l0_2 a1_0 l1_1 l1_2))))) else (some false)))) else (some false)))) else (some false)))))))) = some r := H
   have A19 := Aside0.mk A190
   clear A190
   replace H := Option.bind_eq_some_iff.mp H
   obtain ⟨⟨t449, t450, t453⟩, A200, H⟩ := H
   replace H : ((spec_FirstTrouble.f k t442 t443 t446 t449 t450 t453).bind fun t456 => ((laws_toMachine.f k a0_0 l0_1 l0_2).bind fun bt459 => ((laws_toMachine.f k a1_0 l1_1 l1_2).bind fun bt467 => ((impl_FirstTrouble.f k bt459.1 bt459.2.1 bt459.2.2 bt467.1 bt467.2.1 bt467.2.2).bind fun t475 => ((laws_eqIntS.f k t475 t456).bind fun t478 => (if t478 = true then ((laws_toMachine.f k a0_0 l0_1 l0_2).bind fun bt479 => ((laws_eqMachine.f k bt459.1 bt459.2.1 bt459.2.2 bt479.1 bt479.2.1 bt479.2.2).bind fun t486 => (if t486 = true then ((laws_toMachine.f k a1_0 l1_1 l1_2).bind fun bt487 => ((laws_eqMachine.f k bt467.1 bt467.2.1 bt467.2.2 bt487.1 bt487.2.1 bt487.2.2).bind fun t494 => (if t494 = true then ((laws_markMachine.f k bt459.1 bt459.2.1 bt459.2.2 1).bind fun bt495 => ((laws_markMachine.f k bt467.1 bt467.2.1 bt467.2.2 bt495.1).bind fun bt498 => (if bt498.1 < 0 then (laws_FnExactFirstTrouble.j0 k t456 t475 true a0_0 l0_1 l0_2 a1_0 l1_1 l1_2) else ((laws_eqIntS.f k t475 t456).bind fun t501 => (laws_FnExactFirstTrouble.j0 k t456 t475 (!t501) a0_0 l0_1 l0_2 a1_0 l1_1 l1_2))))) else (some false)))) else (some false)))) else (some false))))))) = some r := H
   have A20 := Aside0.mk A200
   clear A200
   obtain ⟨t456, A21, H⟩ := bindS H
   replace H := Option.bind_eq_some_iff.mp H
   obtain ⟨⟨t459, t460, t463⟩, A220, H⟩ := H
   replace H : ((laws_toMachine.f k a1_0 l1_1 l1_2).bind fun bt467 => ((impl_FirstTrouble.f k t459 t460 t463 bt467.1 bt467.2.1 bt467.2.2).bind fun t475 => ((laws_eqIntS.f k t475 t456).bind fun t478 => (if t478 = true then ((laws_toMachine.f k a0_0 l0_1 l0_2).bind fun bt479 => ((laws_eqMachine.f k t459 t460 t463 bt479.1 bt479.2.1 bt479.2.2).bind fun t486 => (if t486 = true then ((laws_toMachine.f k a1_0 l1_1 l1_2).bind fun bt487 => ((laws_eqMachine.f k bt467.1 bt467.2.1 bt467.2.2 bt487.1 bt487.2.1 bt487.2.2).bind fun t494 => (if t494 = true then ((laws_markMachine.f k t459 t460 t463 1).bind fun bt495 => ((laws_markMachine.f k bt467.1 bt467.2.1 bt467.2.2 bt495.1).bind fun bt498 => (if bt498.1 < 0 then (laws_FnExactFirstTrouble.j0 k t456 t475 true a0_0 l0_1 l0_2 a1_0 l1_1 l1_2) else ((laws_eqIntS.f k t475 t456).bind fun t501 => (laws_FnExactFirstTrouble.j0 k t456 t475 (!t501) a0_0 l0_1 l0_2 a1_0 l1_1 l1_2))))) else (some false)))) else (some false)))) else (some false))))) = some r := H
   have A22 := Aside0.mk A220
   clear A220
   replace H := Option.bind_eq_some_iff.mp H
   obtain ⟨⟨t467, t468, t471⟩, A230, H⟩ := H
   replace H : ((impl_FirstTrouble.f k t459 t460 t463 t467 t468 t471).bind fun t475 => ((laws_eqIntS.f k t475 t456).bind fun t478 => (if t478 = true then ((laws_toMachine.f k a0_0 l0_1 l0_2).bind fun bt479 => ((laws_eqMachine.f k t459 t460 t463 bt479.1 bt479.2.1 bt479.2.2).bind fun t486 => (if t486 = true then ((laws_toMachine.f k a1_0 l1_1 l1_2).bind fun bt487 => ((laws_eqMachine.f k t467 t468 t471 bt487.1 bt487.2.1 bt487.2.2).bind fun t494 => (if t494 = true then ((laws_markMachine.f k t459 t460 t463 1).bind fun bt495 => ((laws_markMachine.f k t467 t468 t471 bt495.1).bind fun bt498 => (if bt498.1 < 0 then (laws_FnExactFirstTrouble.j0 k t456 t475 true a0_0 l0_1 l0_2 a1_0 l1_1 l1_2) else ((laws_eqIntS.f k t475 t456).bind fun t501 => (laws_FnExactFirstTrouble.j0 k t456 t475 (!t501) a0_0 l0_1 l0_2 a1_0 l1_1 l1_2))))) else (some false)))) else (some false)))) else (some false)))) = some r := H
   have A23 := Aside0.mk A230
   clear A230
   obtain ⟨t475, A24, H⟩ := bindS H
   obtain ⟨t478, A25, H⟩ := bindS H
   by_cases c26 : t478 = true
   ·subst c26
    have H1 : ((laws_toMachine.f k a0_0 l0_1 l0_2).bind fun bt479 => ((laws_eqMachine.f k t459 t460 t463 bt479.1 bt479.2.1 bt479.2.2).bind fun t486 => (if t486 = true then ((laws_toMachine.f k a1_0 l1_1 l1_2).bind fun bt487 => ((laws_eqMachine.f k t467 t468 t471 bt487.1 bt487.2.1 bt487.2.2).bind fun t494 => (if t494 = true then ((laws_markMachine.f k t459 t460 t463 1).bind fun bt495 => ((laws_markMachine.f k t467 t468 t471 bt495.1).bind fun bt498 => (if bt498.1 < 0 then (laws_FnExactFirstTrouble.j0 k t456 t475 true a0_0 l0_1 l0_2 a1_0 l1_1 l1_2) else ((laws_eqIntS.f k t475 t456).bind fun t501 => (laws_FnExactFirstTrouble.j0 k t456 t475 (!t501) a0_0 l0_1 l0_2 a1_0 l1_1 l1_2))))) else (some false)))) else (some false)))) = some r := by rw [if_pos rfl] at H; exact H
    clear H
    have H := H1
    clear H1
    replace H := Option.bind_eq_some_iff.mp H
    obtain ⟨⟨t479, t480, t483⟩, A270, H⟩ := H
    replace H : ((laws_eqMachine.f k t459 t460 t463 t479 t480 t483).bind fun t486 => (if t486 = true then ((laws_toMachine.f k a1_0 l1_1 l1_2).bind fun bt487 => ((laws_eqMachine.f k t467 t468 t471 bt487.1 bt487.2.1 bt487.2.2).bind fun t494 => (if t494 = true then ((laws_markMachine.f k t459 t460 t463 1).bind fun bt495 => ((laws_markMachine.f k t467 t468 t471 bt495.1).bind fun bt498 => (if bt498.1 < 0 then (laws_FnExactFirstTrouble.j0 k t456 t475 true a0_0 l0_1 l0_2 a1_0 l1_1 l1_2) else ((laws_eqIntS.f k t475 t456).bind fun t501 => (laws_FnExactFirstTrouble.j0 k t456 t475 (!t501) a0_0 l0_1 l0_2 a1_0 l1_1 l1_2))))) else (some false)))) else (some false))) = some r := H
    have A27 := Aside0.mk A270
    clear A270
    obtain ⟨t486, A28, H⟩ := bindS H
    by_cases c29 : t486 = true
    ·subst c29
     have H1 : ((laws_toMachine.f k a1_0 l1_1 l1_2).bind fun bt487 => ((laws_eqMachine.f k t467 t468 t471 bt487.1 bt487.2.1 bt487.2.2).bind fun t494 => (if t494 = true then ((laws_markMachine.f k t459 t460 t463 1).bind fun bt495 => ((laws_markMachine.f k t467 t468 t471 bt495.1).bind fun bt498 => (if bt498.1 < 0 then (laws_FnExactFirstTrouble.j0 k t456 t475 true a0_0 l0_1 l0_2 a1_0 l1_1 l1_2) else ((laws_eqIntS.f k t475 t456).bind fun t501 => (laws_FnExactFirstTrouble.j0 k t456 t475 (!t501) a0_0 l0_1 l0_2 a1_0 l1_1 l1_2))))) else (some false)))) = some r := by rw [if_pos rfl] at H; exact H
     clear H
     have H := H1
     clear H1
     replace H := Option.bind_eq_some_iff.mp H
     obtain ⟨⟨t487, t488, t491⟩, A300, H⟩ := H
     replace H : ((laws_eqMachine.f k t467 t468 t471 t487 t488 t491).bind fun t494 => (if t494 = true then ((laws_markMachine.f k t459 t460 t463 1).bind fun bt495 => ((laws_markMachine.f k t467 t468 t471 bt495.1).bind fun bt498 => (if bt498.1 < 0 then (laws_FnExactFirstTrouble.j0 k t456 t475 true a0_0 l0_1 l0_2 a1_0 l1_1 l1_2) else ((laws_eqIntS.f k t475 t456).bind fun t501 => (laws_FnExactFirstTrouble.j0 k t456 t475 (!t501) a0_0 l0_1 l0_2 a1_0 l1_1 l1_2))))) else (some false))) = some r := H
     have A30 := Aside0.mk A300
     clear A300
     obtain ⟨t494, A31, H⟩ := bindS H
     by_cases c32 : t494 = true
     ·subst c32
      have H1 : ((laws_markMachine.f k t459 t460 t463 1).bind fun bt495 => ((laws_markMachine.f k t467 t468 t471 bt495.1).bind fun bt498 => (if bt498.1 < 0 then (laws_FnExactFirstTrouble.j0 k t456 t475 true a0_0 l0_1 l0_2 a1_0 l1_1 l1_2) else ((laws_eqIntS.f k t475 t456).bind fun t501 => (laws_FnExactFirstTrouble.j0 k t456 t475 (!t501) a0_0 l0_1 l0_2 a1_0 l1_1 l1_2))))) = some r := by rw [if_pos rfl] at H; exact H
      clear H
      have H := H1
      clear H1
      replace H := Option.bind_eq_some_iff.mp H
      obtain ⟨⟨t495, t496, t497⟩, A330, H⟩ := H
      replace H : ((laws_markMachine.f k t467 t468 t471 t495).bind fun bt498 => (if bt498.1 < 0 then (laws_FnExactFirstTrouble.j0 k t456 t475 true a0_0 l0_1 l0_2 a1_0 l1_1 l1_2) else ((laws_eqIntS.f k t475 t456).bind fun t501 => (laws_FnExactFirstTrouble.j0 k t456 t475 (!t501) a0_0 l0_1 l0_2 a1_0 l1_1 l1_2)))) = some r := H
      have A33 := Aside0.mk A330
      clear A330
      replace H := Option.bind_eq_some_iff.mp H
      obtain ⟨⟨t498, t499, t500⟩, A340, H⟩ := H
      replace H : (if t498 < 0 then (laws_FnExactFirstTrouble.j0 k t456 t475 true a0_0 l0_1 l0_2 a1_0 l1_1 l1_2) else ((laws_eqIntS.f k t475 t456).bind fun t501 => (laws_FnExactFirstTrouble.j0 k t456 t475 (!t501) a0_0 l0_1 l0_2 a1_0 l1_1 l1_2))) = some r := H
      have A34 := Aside0.mk A340
      clear A340
      have HC35 := Aside0.mk H
      clear H
      go_enter Try.func5, Try.ntmps5
      try go_wp2_with (first | ((with_reducible refine gate_dst (N := 2) rfl ?_); refine box_event ?hg (N := 2) ?hd (cs := #[.int .i64 a0_0, .slice A0_1 l0_1.length c0_1, .slice A0_2 l0_2.length c0_2]) (t := 25) ?hr ?_; (case hd => rfl); (case hg => rfl); (case hr => first | (go_simp; done) | (go_simp; rfl)); intro gb438 hg w36 hbox hb; have BK438 := Aside0.mk (hbox); have GW438 := gS HB hg; have GE438 := gS HB hg; replace HB := bS HB hb; clear hb hbox hg) | ((with_reducible refine gate_dst (N := 3) rfl ?_); refine box_event ?hg (N := 3) ?hd (cs := #[.int .i64 a1_0, .slice A1_1 l1_1.length c1_1, .slice A1_2 l1_2.length c1_2]) (t := 25) ?hr ?_; (case hd => rfl); (case hg => rfl); (case hr => first | (go_simp; done) | (go_simp; rfl)); intro gb439 hg w37 hbox hb; have BK439 := Aside0.mk (hbox); have GW439 := gS HB hg; have GE439 := gS HB hg; replace HB := bS HB hb; have NB438_439 := nL BK438 hg; have NB439_438 := nR BK438 hg; replace BK438 := kB BK438 hb; clear hb hbox hg; have hnb38 := NB438_439.out; have hnc38 := NB439_438.out; have hcz39_0 := bc0 BK438; have hcz39_1 := bc1 BK438; have hcz39_2 := bc2 BK438; have hfz39_0 := bf BK438 0; have hfz39_1 := bf BK438 1; have hfz39_2 := bf BK438 2) | ((with_reducible refine gate_callee (f := 9) rfl ?_); refine goesL_ (some 16) rfl rfl Try.func9 (by kernel_rfl) rfl #[.agg #[.int .i64 a0_0, .slice A0_1 l0_1.length c0_1, .slice A0_2 l0_2.length c0_2], .int .i64 1048576] rfl zG ?_; (with_reducible refine (laws_szMachine.calls a0_0 _ _ l0_1 _ _ l0_2 1048576 t440 _ ?side1 ?side2 ?side3 ?side4 A3.out).mono ?_); (case side1 => exact cS HR0_1 HB); (case side2 => exact HC0_1.out); (case side3 => exact cS HR0_2 HB); (case side4 => exact HC0_2.out); rintro e w40 ⟨rfl, hb⟩; refine ⟨_, rfl, ?_⟩; replace BK438 := kB BK438 hb; replace BK439 := kB BK439 hb; replace HB := bS HB hb; (try clear hb); have hcz41_0 := bc0 BK439; have hcz41_1 := bc1 BK439; have hcz41_2 := bc2 BK439; have hfz41_0 := bf BK439 0; have hfz41_1 := bf BK439 1; have hfz41_2 := bf BK439 2) | ((with_reducible refine gate_callee (f := 9) rfl ?_); refine goesL_ (some 21) rfl rfl Try.func9 (by kernel_rfl) rfl #[.agg #[.int .i64 a1_0, .slice A1_1 l1_1.length c1_1, .slice A1_2 l1_2.length c1_2], .int .i64 t440] rfl zG ?_; (with_reducible refine (laws_szMachine.calls a1_0 _ _ l1_1 _ _ l1_2 t440 t441 _ ?side1 ?side2 ?side3 ?side4 A10.out).mono ?_); (case side1 => exact cS HR1_1 HB); (case side2 => exact HC1_1.out); (case side3 => exact cS HR1_2 HB); (case side4 => exact HC1_2.out); rintro e w42 ⟨rfl, hb⟩; refine ⟨_, rfl, ?_⟩; replace BK438 := kB BK438 hb; replace BK439 := kB BK439 hb; replace HB := bS HB hb; (try clear hb)))
      replace BK438 := Aside0.mk (blk_drew BK438.out)
      replace BK439 := Aside0.mk (blk_drew BK439.out)
      replace HB := Aside0.mk (below_drew1 HB.out)
      refine start_ (n := 6) (S := fun w' => w'.cell? ⟨gb438, 0, none⟩ = some (.int .i64 a0_0) ∧ w'.cell? ⟨gb438, 1, none⟩ = some (.slice A0_1 l0_1.length c0_1) ∧ w'.cell? ⟨gb438, 2, none⟩ = some (.slice A0_2 l0_2.length c0_2) ∧ w'.cell? ⟨gb439, 0, none⟩ = some (.int .i64 a1_0) ∧ w'.cell? ⟨gb439, 1, none⟩ = some (.slice A1_1 l1_1.length c1_1) ∧ w'.cell? ⟨gb439, 2, none⟩ = some (.slice A1_2 l1_2.length c1_2)) (ds := []) (bm 6 0) (by kernel_rfl) rfl (bm0 _) ⟨bc0 BK438, bc1 BK438, bc2 BK438, bc0 BK439, bc1 BK439, bc2 BK439⟩ (fun hHeld => ?_)
      generalize w42.drew = w43 at BK438 BK439 HB hHeld ⊢
      refine take_ (i := 0) (N := some 24) (v := ?_) (a' := ?_) (bm 6 1) rfl rfl (by kernel_rfl) (fun _ _ _ h => h) (Or.inl ⟨by rfl, ?_⟩) hHeld ?_ ?_
      rotate_left
      ·rintro w' ⟨s0, s1, s2, s3, s4, s5⟩
       go_simp
       with_reducible rfl
      rotate_left
      ·simp only [Act.put, List.setIfInBounds_toArray, List.set_cons_zero, List.set_cons_succ, i64_w, i32_w]
       rfl
      refine take_ (i := 2) (N := some 26) (v := ?_) (a' := ?_) (bm 6 5) rfl rfl (by kernel_rfl) (fun _ _ _ h => h) (Or.inl ⟨by rfl, ?_⟩) hHeld ?_ ?_
      rotate_left
      ·rintro w' ⟨s0, s1, s2, s3, s4, s5⟩
       go_simp
       with_reducible rfl
      rotate_left
      ·simp only [Act.put, List.setIfInBounds_toArray, List.set_cons_zero, List.set_cons_succ, i64_w, i32_w]
       rfl
      refine one_ (i := 1) (N := some 25) (bm 6 7) rfl rfl (by kernel_rfl) (by decide) (fun K hK => ?_)
      refine goes_ Try.func11 (by kernel_rfl) rfl #[.agg #[.int .i64 a0_0, .slice A0_1 l0_1.length c0_1, .slice A0_2 l0_2.length c0_2]] (by rfl) rfl rfl zG ?_
      with_reducible refine (laws_toMachine.calls k a0_0 _ _ l0_1 _ _ l0_2 t442 t443 t446 _ ?side1 ?side2 ?side3 ?side4 A19.out).mono ?_
      (case side1 => exact cS HR0_1 HB)
      (case side2 => exact HC0_1.out)
      (case side3 => exact cS HR0_2 HB)
      (case side4 => exact HC0_2.out)
      rintro e w44 ⟨v444, v447, rfl, ho0, ho1, hb⟩
      refine ⟨_, rfl, ?_⟩
      have HO445 := Aside0.mk (Kd.R_lower ho0 (below_size (zB HB)))
      have HO448 := Aside0.mk (Kd.R_lower ho1 (below_size (zB HB)))
      replace BK438 := kB BK438 hb
      replace BK439 := kB BK439 hb
      replace HB := bS HB hb
      (try clear hb)
      (try clear hb2)
      (try clear hk)
      (try clear hi)
      (try clear ho0)
      (try clear ho1)
      refine hK.out _ _ ⟨bc0 BK438, bc1 BK438, bc2 BK438, bc0 BK439, bc1 BK439, bc2 BK439⟩ (fun hHeld => ?_)
      clear hK K
      refine norm_ (a' := ?_) ?_ ?_
      rotate_left
      ·show Act.put _ (some 25) _ = _
       simp only [Act.put, List.setIfInBounds_toArray, List.set_cons_zero, List.set_cons_succ, i64_w, i32_w]
       rfl
      refine one_ (i := 3) (N := some 27) (bm 6 15) rfl rfl (by kernel_rfl) (by decide) (fun K hK => ?_)
      refine goes_ Try.func11 (by kernel_rfl) rfl #[.agg #[.int .i64 a1_0, .slice A1_1 l1_1.length c1_1, .slice A1_2 l1_2.length c1_2]] (by rfl) rfl rfl zG ?_
      with_reducible refine (laws_toMachine.calls k a1_0 _ _ l1_1 _ _ l1_2 t449 t450 t453 _ ?side1 ?side2 ?side3 ?side4 A20.out).mono ?_
      (case side1 => exact cS HR1_1 HB)
      (case side2 => exact HC1_1.out)
      (case side3 => exact cS HR1_2 HB)
      (case side4 => exact HC1_2.out)
      rintro e w45 ⟨v451, v454, rfl, ho0, ho1, hb⟩
      refine ⟨_, rfl, ?_⟩
      have HO452 := Aside0.mk (Kd.R_lower (Kd.R_new' ho0 (Kd.R_lt (zR HO445))) (below_size (zB HB)))
      replace HO445 := Aside0.mk (Kd.R_elder' (zR HO445) (Kd.R_base ho0) hb)
      have HO455 := Aside0.mk (Kd.R_lower (Kd.R_new' ho1 (Kd.R_lt (zR HO448))) (below_size (zB HB)))
      replace HO448 := Aside0.mk (Kd.R_elder' (zR HO448) (Kd.R_base ho1) hb)
      replace BK438 := kB BK438 hb
      replace BK439 := kB BK439 hb
      replace HB := bS HB hb
      (try clear hb)
      (try clear hb2)
      (try clear hk)
      (try clear hi)
      (try clear ho0)
      (try clear ho1)
      obtain ⟨Ao46, co46, eo46⟩ := Kd.R_slice HO445.out
      (first | subst eo46 | (injection eo46 with f1_ f2_ f3_; have f4_ := f1_.symm; have f5_ := f3_.symm; clear f1_ f2_ f3_; subst f4_; subst f5_))
      obtain ⟨Ao47, co47, eo47⟩ := Kd.R_slice HO448.out
      (first | subst eo47 | (injection eo47 with f1_ f2_ f3_; have f4_ := f1_.symm; have f5_ := f3_.symm; clear f1_ f2_ f3_; subst f4_; subst f5_))
      obtain ⟨Ao48, co48, eo48⟩ := Kd.R_slice HO452.out
      (first | subst eo48 | (injection eo48 with f1_ f2_ f3_; have f4_ := f1_.symm; have f5_ := f3_.symm; clear f1_ f2_ f3_; subst f4_; subst f5_))
      obtain ⟨Ao49, co49, eo49⟩ := Kd.R_slice HO455.out
      (first | subst eo49 | (injection eo49 with f1_ f2_ f3_; have f4_ := f1_.symm; have f5_ := f3_.symm; clear f1_ f2_ f3_; subst f4_; subst f5_))
      refine hK.out _ _ ⟨bc0 BK438, bc1 BK438, bc2 BK438, bc0 BK439, bc1 BK439, bc2 BK439⟩ (fun hHeld => ?_)
      clear hK K
      refine norm_ (a' := ?_) ?_ ?_
      rotate_left
      ·show Act.put _ (some 27) _ = _
       simp only [Act.put, List.setIfInBounds_toArray, List.set_cons_zero, List.set_cons_succ, i64_w, i32_w]
       rfl
      refine one_ (i := 4) (N := some 28) (bm 6 31) rfl rfl (by kernel_rfl) (by decide) (fun K hK => ?_)
      refine goes_ Try.func20 (by kernel_rfl) rfl #[.agg #[.int .i64 t442, .slice Ao46 t443.length co46, .slice Ao47 t446.length co47], .agg #[.int .i64 t449, .slice Ao48 t450.length co48, .slice Ao49 t453.length co49]] (by rfl) rfl rfl zG ?_
      with_reducible refine (spec_FirstTrouble.calls k t442 _ _ t443 _ _ t446 t449 _ _ t450 _ _ t453 t456 _ ?side1 ?side2 ?side3 ?side4 ?side5 ?side6 ?side7 ?side8 A21.out).mono ?_
      (case side1 => repeat (first | exact (Kd.R_reads' HO445.out).2.2 | (with_reducible refine Kd.C_alloc ?_ _) | (with_reducible refine Kd.C_drewN ?_ _) | (with_reducible refine Kd.C_drew ?_)))
      (case side2 => exact (Kd.R_reads' HO445.out).2.1)
      (case side3 => repeat (first | exact (Kd.R_reads' HO448.out).2.2 | (with_reducible refine Kd.C_alloc ?_ _) | (with_reducible refine Kd.C_drewN ?_ _) | (with_reducible refine Kd.C_drew ?_)))
      (case side4 => exact (Kd.R_reads' HO448.out).2.1)
      (case side5 => repeat (first | exact (Kd.R_reads' HO452.out).2.2 | (with_reducible refine Kd.C_alloc ?_ _) | (with_reducible refine Kd.C_drewN ?_ _) | (with_reducible refine Kd.C_drew ?_)))
      (case side6 => exact (Kd.R_reads' HO452.out).2.1)
      (case side7 => repeat (first | exact (Kd.R_reads' HO455.out).2.2 | (with_reducible refine Kd.C_alloc ?_ _) | (with_reducible refine Kd.C_drewN ?_ _) | (with_reducible refine Kd.C_drew ?_)))
      (case side8 => exact (Kd.R_reads' HO455.out).2.1)
      rintro e w50 ⟨v457, rfl, ho0, hb⟩
      refine ⟨_, rfl, ?_⟩
      replace HO445 := Aside0.mk (Kd.R_below (zR HO445) hb)
      replace HO448 := Aside0.mk (Kd.R_below (zR HO448) hb)
      replace HO452 := Aside0.mk (Kd.R_below (zR HO452) hb)
      replace HO455 := Aside0.mk (Kd.R_below (zR HO455) hb)
      have HO458 := Aside0.mk (Kd.R_lower ho0 (below_size (zB HB)))
      replace BK438 := kB BK438 hb
      replace BK439 := kB BK439 hb
      replace HB := bS HB hb
      (try clear hb)
      (try clear hb2)
      (try clear hk)
      (try clear hi)
      (try clear ho0)
      refine hK.out _ _ ⟨bc0 BK438, bc1 BK438, bc2 BK438, bc0 BK439, bc1 BK439, bc2 BK439⟩ (fun hHeld => ?_)
      clear hK K
      refine norm_ (a' := ?_) ?_ ?_
      rotate_left
      ·show Act.put _ (some 28) _ = _
       simp only [Act.put, List.setIfInBounds_toArray, List.set_cons_zero, List.set_cons_succ, i64_w, i32_w]
       rfl
      refine pure_ (i := 5) (N := some 6) (v := ?_) (a' := ?_) (bm 6 63) rfl rfl (by kernel_rfl) (fun _ _ _ h => h) (Or.inl ⟨by rfl, ?_⟩) ?_ ?_
      rotate_left
      ·intro w'
       go_simp
       with_reducible rfl
      rotate_left
      ·simp only [Act.put, List.setIfInBounds_toArray, List.set_cons_zero, List.set_cons_succ, i64_w, i32_w]
       rfl
      refine done_ (by kernel_rfl) ?_
      try clear hHeld
      have hcz51_0 := bc0 BK438
      have hcz51_1 := bc1 BK438
      have hcz51_2 := bc2 BK438
      have hfz51_0 := bf BK438 0
      have hfz51_1 := bf BK438 1
      have hfz51_2 := bf BK438 2
      try go_wp2_with (first | ((with_reducible refine gate_callee (f := 11) rfl ?_); refine goesL_ (some 30) rfl rfl Try.func11 (by kernel_rfl) rfl #[.agg #[.int .i64 a0_0, .slice A0_1 l0_1.length c0_1, .slice A0_2 l0_2.length c0_2]] rfl zG ?_; (with_reducible refine (laws_toMachine.calls k a0_0 _ _ l0_1 _ _ l0_2 t459 t460 t463 _ ?side1 ?side2 ?side3 ?side4 A22.out).mono ?_); (case side1 => exact cS HR0_1 HB); (case side2 => exact HC0_1.out); (case side3 => exact cS HR0_2 HB); (case side4 => exact HC0_2.out); rintro e w52 ⟨v461, v464, rfl, ho0, ho1, hb⟩; refine ⟨_, rfl, ?_⟩; replace HO458 := Aside0.mk (Kd.R_below (zR HO458) hb); have HO462 := Aside0.mk (Kd.R_lower (Kd.R_new' (Kd.R_new' ho0 (Kd.R_lt (zR HO445))) (Kd.R_lt (zR HO452))) (below_size (zB HB))); replace HO445 := Aside0.mk (Kd.R_elder' (zR HO445) (Kd.R_base ho0) hb); replace HO452 := Aside0.mk (Kd.R_elder' (zR HO452) (Kd.R_base ho0) hb); have HO465 := Aside0.mk (Kd.R_lower (Kd.R_new' (Kd.R_new' ho1 (Kd.R_lt (zR HO448))) (Kd.R_lt (zR HO455))) (below_size (zB HB))); replace HO448 := Aside0.mk (Kd.R_elder' (zR HO448) (Kd.R_base ho1) hb); replace HO455 := Aside0.mk (Kd.R_elder' (zR HO455) (Kd.R_base ho1) hb); replace BK438 := kB BK438 hb; replace BK439 := kB BK439 hb; replace HB := bS HB hb; (try clear hb); (try clear ho0); (try clear ho1)) | ((with_reducible refine gate_dst (N := 7) rfl ?_); refine box_event ?hg (N := 7) ?hd (cs := #[.int .i64 0, .slice none 0 0, .slice none 0 0]) (t := 31) ?hr ?_; (case hd => rfl); (case hg => rfl); (case hr => first | (go_simp; done) | (go_simp; rfl)); intro gb466 hg w53 hbox hb; replace HO445 := Aside0.mk (Kd.R_below (zR HO445) hb); replace HO448 := Aside0.mk (Kd.R_below (zR HO448) hb); replace HO452 := Aside0.mk (Kd.R_below (zR HO452) hb); replace HO455 := Aside0.mk (Kd.R_below (zR HO455) hb); replace HO458 := Aside0.mk (Kd.R_below (zR HO458) hb); replace HO462 := Aside0.mk (Kd.R_below (zR HO462) hb); replace HO465 := Aside0.mk (Kd.R_below (zR HO465) hb); have BK466 := Aside0.mk (hbox); have GW466 := gS HB hg; have GE466 := gS HB hg; replace HB := bS HB hb; have NB438_466 := nL BK438 hg; have NB466_438 := nR BK438 hg; replace BK438 := kB BK438 hb; have NB439_466 := nL BK439 hg; have NB466_439 := nR BK439 hg; replace BK439 := kB BK439 hb; clear hb hbox hg; have hnb54 := NB466_438.out; have hnc54 := NB438_466.out; have hnb55 := NB466_439.out; have hnc55 := NB439_466.out; have hcz56_0 := bc0 BK466; have hcz56_1 := bc1 BK466; have hcz56_2 := bc2 BK466; have hfz56_0 := bf BK466 0; have hfz56_1 := bf BK466 1; have hfz56_2 := bf BK466 2; obtain ⟨Ao57, co57, eo57⟩ := Kd.R_slice HO462.out; subst eo57; obtain ⟨Ao58, co58, eo58⟩ := Kd.R_slice HO465.out; subst eo58; have hcz59_0 := bc0 BK439; have hcz59_1 := bc1 BK439; have hcz59_2 := bc2 BK439; have hfz59_0 := bf BK439 0; have hfz59_1 := bf BK439 1; have hfz59_2 := bf BK439 2) | ((with_reducible refine gate_callee (f := 11) rfl ?_); refine goesL_ (some 32) rfl rfl Try.func11 (by kernel_rfl) rfl #[.agg #[.int .i64 a1_0, .slice A1_1 l1_1.length c1_1, .slice A1_2 l1_2.length c1_2]] rfl zG ?_; (with_reducible refine (laws_toMachine.calls k a1_0 _ _ l1_1 _ _ l1_2 t467 t468 t471 _ ?side1 ?side2 ?side3 ?side4 A23.out).mono ?_); (case side1 => exact Kd.C_below HR1_1.out (zB HB)); (case side2 => exact HC1_1.out); (case side3 => exact Kd.C_below HR1_2.out (zB HB)); (case side4 => exact HC1_2.out); rintro e w60 ⟨v469, v472, rfl, ho0, ho1, hb⟩; refine ⟨_, rfl, ?_⟩; replace HO458 := Aside0.mk (Kd.R_below (by (with_reducible repeat (first | apply Kd.R_alloc | apply Kd.R_drewN | apply Kd.R_drew)); exact (Kd.R_mono (Kd.R_far (p := ⟨gb466, 2, none⟩) (Kd.R_far (p := ⟨gb466, 1, none⟩) (Kd.R_far (p := ⟨gb466, 0, none⟩) (Kd.R_types HO458.out BK466.out (by decide)) (fun _ hk => hk.2) (.int .i64 t459)) (fun _ hk => hk.2) (.slice Ao57 t460.length co57)) (fun _ hk => hk.2) (.slice Ao58 t463.length co58)) (fun _ h_ => h_.1))) hb); have HO470 := Aside0.mk (Kd.R_lower (Kd.R_new' (Kd.R_new' (Kd.R_new' ho0 (Kd.R_lt (by (with_reducible repeat (first | apply Kd.R_alloc | apply Kd.R_drewN | apply Kd.R_drew)); exact (Kd.R_mono (Kd.R_far (p := ⟨gb466, 2, none⟩) (Kd.R_far (p := ⟨gb466, 1, none⟩) (Kd.R_far (p := ⟨gb466, 0, none⟩) (Kd.R_types HO445.out BK466.out (by decide)) (fun _ hk => hk.2) (.int .i64 t459)) (fun _ hk => hk.2) (.slice Ao57 t460.length co57)) (fun _ hk => hk.2) (.slice Ao58 t463.length co58)) (fun _ h_ => h_.1))))) (Kd.R_lt (by (with_reducible repeat (first | apply Kd.R_alloc | apply Kd.R_drewN | apply Kd.R_drew)); exact (Kd.R_mono (Kd.R_far (p := ⟨gb466, 2, none⟩) (Kd.R_far (p := ⟨gb466, 1, none⟩) (Kd.R_far (p := ⟨gb466, 0, none⟩) (Kd.R_types HO452.out BK466.out (by decide)) (fun _ hk => hk.2) (.int .i64 t459)) (fun _ hk => hk.2) (.slice Ao57 t460.length co57)) (fun _ hk => hk.2) (.slice Ao58 t463.length co58)) (fun _ h_ => h_.1))))) (Kd.R_lt (by (with_reducible repeat (first | apply Kd.R_alloc | apply Kd.R_drewN | apply Kd.R_drew)); exact (Kd.R_mono (Kd.R_far (p := ⟨gb466, 2, none⟩) (Kd.R_far (p := ⟨gb466, 1, none⟩) (Kd.R_far (p := ⟨gb466, 0, none⟩) (Kd.R_types HO462.out BK466.out (by decide)) (fun _ hk => hk.2) (.int .i64 t459)) (fun _ hk => hk.2) (.slice Ao57 t460.length co57)) (fun _ hk => hk.2) (.slice Ao58 t463.length co58)) (fun _ h_ => h_.1))))) (below_size (zB HB))); replace HO445 := Aside0.mk (Kd.R_elder' (by (with_reducible repeat (first | apply Kd.R_alloc | apply Kd.R_drewN | apply Kd.R_drew)); exact (Kd.R_mono (Kd.R_far (p := ⟨gb466, 2, none⟩) (Kd.R_far (p := ⟨gb466, 1, none⟩) (Kd.R_far (p := ⟨gb466, 0, none⟩) (Kd.R_types HO445.out BK466.out (by decide)) (fun _ hk => hk.2) (.int .i64 t459)) (fun _ hk => hk.2) (.slice Ao57 t460.length co57)) (fun _ hk => hk.2) (.slice Ao58 t463.length co58)) (fun _ h_ => h_.1))) (Kd.R_base ho0) hb); replace HO452 := Aside0.mk (Kd.R_elder' (by (with_reducible repeat (first | apply Kd.R_alloc | apply Kd.R_drewN | apply Kd.R_drew)); exact (Kd.R_mono (Kd.R_far (p := ⟨gb466, 2, none⟩) (Kd.R_far (p := ⟨gb466, 1, none⟩) (Kd.R_far (p := ⟨gb466, 0, none⟩) (Kd.R_types HO452.out BK466.out (by decide)) (fun _ hk => hk.2) (.int .i64 t459)) (fun _ hk => hk.2) (.slice Ao57 t460.length co57)) (fun _ hk => hk.2) (.slice Ao58 t463.length co58)) (fun _ h_ => h_.1))) (Kd.R_base ho0) hb); replace HO462 := Aside0.mk (Kd.R_elder' (by (with_reducible repeat (first | apply Kd.R_alloc | apply Kd.R_drewN | apply Kd.R_drew)); exact (Kd.R_mono (Kd.R_far (p := ⟨gb466, 2, none⟩) (Kd.R_far (p := ⟨gb466, 1, none⟩) (Kd.R_far (p := ⟨gb466, 0, none⟩) (Kd.R_types HO462.out BK466.out (by decide)) (fun _ hk => hk.2) (.int .i64 t459)) (fun _ hk => hk.2) (.slice Ao57 t460.length co57)) (fun _ hk => hk.2) (.slice Ao58 t463.length co58)) (fun _ h_ => h_.1))) (Kd.R_base ho0) hb); have HO473 := Aside0.mk (Kd.R_lower (Kd.R_new' (Kd.R_new' (Kd.R_new' ho1 (Kd.R_lt (by (with_reducible repeat (first | apply Kd.R_alloc | apply Kd.R_drewN | apply Kd.R_drew)); exact (Kd.R_mono (Kd.R_far (p := ⟨gb466, 2, none⟩) (Kd.R_far (p := ⟨gb466, 1, none⟩) (Kd.R_far (p := ⟨gb466, 0, none⟩) (Kd.R_types HO448.out BK466.out (by decide)) (fun _ hk => hk.2) (.int .i64 t459)) (fun _ hk => hk.2) (.slice Ao57 t460.length co57)) (fun _ hk => hk.2) (.slice Ao58 t463.length co58)) (fun _ h_ => h_.1))))) (Kd.R_lt (by (with_reducible repeat (first | apply Kd.R_alloc | apply Kd.R_drewN | apply Kd.R_drew)); exact (Kd.R_mono (Kd.R_far (p := ⟨gb466, 2, none⟩) (Kd.R_far (p := ⟨gb466, 1, none⟩) (Kd.R_far (p := ⟨gb466, 0, none⟩) (Kd.R_types HO455.out BK466.out (by decide)) (fun _ hk => hk.2) (.int .i64 t459)) (fun _ hk => hk.2) (.slice Ao57 t460.length co57)) (fun _ hk => hk.2) (.slice Ao58 t463.length co58)) (fun _ h_ => h_.1))))) (Kd.R_lt (by (with_reducible repeat (first | apply Kd.R_alloc | apply Kd.R_drewN | apply Kd.R_drew)); exact (Kd.R_mono (Kd.R_far (p := ⟨gb466, 2, none⟩) (Kd.R_far (p := ⟨gb466, 1, none⟩) (Kd.R_far (p := ⟨gb466, 0, none⟩) (Kd.R_types HO465.out BK466.out (by decide)) (fun _ hk => hk.2) (.int .i64 t459)) (fun _ hk => hk.2) (.slice Ao57 t460.length co57)) (fun _ hk => hk.2) (.slice Ao58 t463.length co58)) (fun _ h_ => h_.1))))) (below_size (zB HB))); replace HO448 := Aside0.mk (Kd.R_elder' (by (with_reducible repeat (first | apply Kd.R_alloc | apply Kd.R_drewN | apply Kd.R_drew)); exact (Kd.R_mono (Kd.R_far (p := ⟨gb466, 2, none⟩) (Kd.R_far (p := ⟨gb466, 1, none⟩) (Kd.R_far (p := ⟨gb466, 0, none⟩) (Kd.R_types HO448.out BK466.out (by decide)) (fun _ hk => hk.2) (.int .i64 t459)) (fun _ hk => hk.2) (.slice Ao57 t460.length co57)) (fun _ hk => hk.2) (.slice Ao58 t463.length co58)) (fun _ h_ => h_.1))) (Kd.R_base ho1) hb); replace HO455 := Aside0.mk (Kd.R_elder' (by (with_reducible repeat (first | apply Kd.R_alloc | apply Kd.R_drewN | apply Kd.R_drew)); exact (Kd.R_mono (Kd.R_far (p := ⟨gb466, 2, none⟩) (Kd.R_far (p := ⟨gb466, 1, none⟩) (Kd.R_far (p := ⟨gb466, 0, none⟩) (Kd.R_types HO455.out BK466.out (by decide)) (fun _ hk => hk.2) (.int .i64 t459)) (fun _ hk => hk.2) (.slice Ao57 t460.length co57)) (fun _ hk => hk.2) (.slice Ao58 t463.length co58)) (fun _ h_ => h_.1))) (Kd.R_base ho1) hb); replace HO465 := Aside0.mk (Kd.R_elder' (by (with_reducible repeat (first | apply Kd.R_alloc | apply Kd.R_drewN | apply Kd.R_drew)); exact (Kd.R_mono (Kd.R_far (p := ⟨gb466, 2, none⟩) (Kd.R_far (p := ⟨gb466, 1, none⟩) (Kd.R_far (p := ⟨gb466, 0, none⟩) (Kd.R_types HO465.out BK466.out (by decide)) (fun _ hk => hk.2) (.int .i64 t459)) (fun _ hk => hk.2) (.slice Ao57 t460.length co57)) (fun _ hk => hk.2) (.slice Ao58 t463.length co58)) (fun _ h_ => h_.1))) (Kd.R_base ho1) hb); replace BK438 := Aside0.mk (blk_below (g := gb438) (o := .cells #[.int .i64 a0_0, .slice A0_1 l0_1.length c0_1, .slice A0_2 l0_2.length c0_2] 25 (0, 0)) (by (with_reducible repeat (first | refine blk_drewN ?_ _ | refine blk_drew ?_ | refine blk_alloc ?_ _)); refine blk_far ?_ NB438_466.out _; (with_reducible repeat (first | refine blk_drewN ?_ _ | refine blk_drew ?_ | refine blk_alloc ?_ _)); refine blk_far ?_ NB438_466.out _; (with_reducible repeat (first | refine blk_drewN ?_ _ | refine blk_drew ?_ | refine blk_alloc ?_ _)); refine blk_far ?_ NB438_466.out _; (with_reducible repeat (first | refine blk_drewN ?_ _ | refine blk_drew ?_ | refine blk_alloc ?_ _)); exact BK438.out) hb); replace BK439 := Aside0.mk (blk_below (g := gb439) (o := .cells #[.int .i64 a1_0, .slice A1_1 l1_1.length c1_1, .slice A1_2 l1_2.length c1_2] 25 (0, 0)) (by (with_reducible repeat (first | refine blk_drewN ?_ _ | refine blk_drew ?_ | refine blk_alloc ?_ _)); refine blk_far ?_ NB439_466.out _; (with_reducible repeat (first | refine blk_drewN ?_ _ | refine blk_drew ?_ | refine blk_alloc ?_ _)); refine blk_far ?_ NB439_466.out _; (with_reducible repeat (first | refine blk_drewN ?_ _ | refine blk_drew ?_ | refine blk_alloc ?_ _)); refine blk_far ?_ NB439_466.out _; (with_reducible repeat (first | refine blk_drewN ?_ _ | refine blk_drew ?_ | refine blk_alloc ?_ _)); exact BK439.out) hb); replace BK466 := Aside0.mk (blk_below (g := gb466) (o := .cells #[.int .i64 t459, .slice Ao57 t460.length co57, .slice Ao58 t463.length co58] 31 (0, 0)) (by (with_reducible repeat (first | refine blk_drewN ?_ _ | refine blk_drew ?_ | refine blk_alloc ?_ _)); refine blk_put (cs := #[.int .i64 t459, .slice Ao57 t460.length co57, .slice none 0 0]) ?_ 2 _ rfl; (with_reducible repeat (first | refine blk_drewN ?_ _ | refine blk_drew ?_ | refine blk_alloc ?_ _)); refine blk_put (cs := #[.int .i64 t459, .slice none 0 0, .slice none 0 0]) ?_ 1 _ rfl; (with_reducible repeat (first | refine blk_drewN ?_ _ | refine blk_drew ?_ | refine blk_alloc ?_ _)); refine blk_put (cs := #[.int .i64 0, .slice none 0 0, .slice none 0 0]) ?_ 0 _ rfl; (with_reducible repeat (first | refine blk_drewN ?_ _ | refine blk_drew ?_ | refine blk_alloc ?_ _)); exact BK466.out) hb); replace HB := bS HB hb; (try clear hb); (try clear ho0); (try clear ho1)) | ((with_reducible refine gate_dst (N := 8) rfl ?_); refine box_event ?hg (N := 8) ?hd (cs := #[.int .i64 0, .slice none 0 0, .slice none 0 0]) (t := 31) ?hr ?_; (case hd => rfl); (case hg => rfl); (case hr => first | (go_simp; done) | (go_simp; rfl)); intro gb474 hg w61 hbox hb; replace HO445 := Aside0.mk (Kd.R_below (zR HO445) hb); replace HO448 := Aside0.mk (Kd.R_below (zR HO448) hb); replace HO452 := Aside0.mk (Kd.R_below (zR HO452) hb); replace HO455 := Aside0.mk (Kd.R_below (zR HO455) hb); replace HO458 := Aside0.mk (Kd.R_below (zR HO458) hb); replace HO462 := Aside0.mk (Kd.R_below (zR HO462) hb); replace HO465 := Aside0.mk (Kd.R_below (zR HO465) hb); replace HO470 := Aside0.mk (Kd.R_below (zR HO470) hb); replace HO473 := Aside0.mk (Kd.R_below (zR HO473) hb); have BK474 := Aside0.mk (hbox); have GW474 := gS HB hg; have GE474 := gS HB hg; replace HB := bS HB hb; have NB438_474 := nL BK438 hg; have NB474_438 := nR BK438 hg; replace BK438 := kB BK438 hb; have NB439_474 := nL BK439 hg; have NB474_439 := nR BK439 hg; replace BK439 := kB BK439 hb; have NB466_474 := nL BK466 hg; have NB474_466 := nR BK466 hg; replace BK466 := kB BK466 hb; clear hb hbox hg; have hnb62 := NB474_438.out; have hnc62 := NB438_474.out; have hnb63 := NB474_439.out; have hnc63 := NB439_474.out; have hnb64 := NB474_466.out; have hnc64 := NB466_474.out; have hcz65_0 := bc0 BK474; have hcz65_1 := bc1 BK474; have hcz65_2 := bc2 BK474; have hfz65_0 := bf BK474 0; have hfz65_1 := bf BK474 1; have hfz65_2 := bf BK474 2; obtain ⟨Ao66, co66, eo66⟩ := Kd.R_slice HO470.out; subst eo66; obtain ⟨Ao67, co67, eo67⟩ := Kd.R_slice HO473.out; subst eo67; have hcz68_0 := bc0 BK466; have hcz68_1 := bc1 BK466; have hcz68_2 := bc2 BK466; have hfz68_0 := bf BK466 0; have hfz68_1 := bf BK466 1; have hfz68_2 := bf BK466 2) | ((with_reducible refine gate_callee (f := 21) rfl ?_); refine goesL_ (some 35) rfl rfl Try.func21 (by kernel_rfl) rfl #[.agg #[.int .i64 t459, .slice Ao57 t460.length co57, .slice Ao58 t463.length co58], .agg #[.int .i64 t467, .slice Ao66 t468.length co66, .slice Ao67 t471.length co67]] rfl zG ?_; (with_reducible refine (impl_FirstTrouble.calls k t459 _ _ t460 _ _ t463 t467 _ _ t468 _ _ t471 t475 _ ?side1 ?side2 ?side3 ?side4 ?side5 ?side6 ?side7 ?side8 A24.out).mono ?_); (case side1 => refine (Kd.R_reads' (e := 4) (base := w.heap.size) (ok := fun k_ => (((True ∧ some k_ ≠ (.slice Ao46 t443.length co46 : Value).ownBlock) ∧ some k_ ≠ (.slice Ao48 t450.length co48 : Value).ownBlock) ∧ some k_ ≠ (.slice Ao66 t468.length co66 : Value).ownBlock)) (n := t460.length) (c := co57) ?_).2.2; exact (by (with_reducible repeat (first | apply Kd.R_alloc | apply Kd.R_drewN | apply Kd.R_drew)); exact (Kd.R_mono (Kd.R_far (p := ⟨gb474, 2, none⟩) (Kd.R_far (p := ⟨gb474, 1, none⟩) (Kd.R_far (p := ⟨gb474, 0, none⟩) (Kd.R_types HO462.out BK474.out (by decide)) (fun _ hk => hk.2) (.int .i64 t467)) (fun _ hk => hk.2) (.slice Ao66 t468.length co66)) (fun _ hk => hk.2) (.slice Ao67 t471.length co67)) (fun _ h_ => h_.1)))); (case side2 => exact (Kd.R_reads' HO462.out).2.1); (case side3 => refine (Kd.R_reads' (e := 64) (base := w.heap.size) (ok := fun k_ => (((True ∧ some k_ ≠ (.slice Ao47 t446.length co47 : Value).ownBlock) ∧ some k_ ≠ (.slice Ao49 t453.length co49 : Value).ownBlock) ∧ some k_ ≠ (.slice Ao67 t471.length co67 : Value).ownBlock)) (n := t463.length) (c := co58) ?_).2.2; exact (by (with_reducible repeat (first | apply Kd.R_alloc | apply Kd.R_drewN | apply Kd.R_drew)); exact (Kd.R_mono (Kd.R_far (p := ⟨gb474, 2, none⟩) (Kd.R_far (p := ⟨gb474, 1, none⟩) (Kd.R_far (p := ⟨gb474, 0, none⟩) (Kd.R_types HO465.out BK474.out (by decide)) (fun _ hk => hk.2) (.int .i64 t467)) (fun _ hk => hk.2) (.slice Ao66 t468.length co66)) (fun _ hk => hk.2) (.slice Ao67 t471.length co67)) (fun _ h_ => h_.1)))); (case side4 => exact (Kd.R_reads' HO465.out).2.1); (case side5 => refine (Kd.R_reads' (e := 4) (base := w.heap.size) (ok := fun k_ => (((True ∧ some k_ ≠ (.slice Ao46 t443.length co46 : Value).ownBlock) ∧ some k_ ≠ (.slice Ao48 t450.length co48 : Value).ownBlock) ∧ some k_ ≠ (.slice Ao57 t460.length co57 : Value).ownBlock)) (n := t468.length) (c := co66) ?_).2.2; exact (by (with_reducible repeat (first | apply Kd.R_alloc | apply Kd.R_drewN | apply Kd.R_drew)); exact (Kd.R_mono (Kd.R_far (p := ⟨gb474, 2, none⟩) (Kd.R_far (p := ⟨gb474, 1, none⟩) (Kd.R_far (p := ⟨gb474, 0, none⟩) (Kd.R_types HO470.out BK474.out (by decide)) (fun _ hk => hk.2) (.int .i64 t467)) (fun _ hk => hk.2) (.slice Ao66 t468.length co66)) (fun _ hk => hk.2) (.slice Ao67 t471.length co67)) (fun _ h_ => h_.1)))); (case side6 => exact (Kd.R_reads' HO470.out).2.1); (case side7 => refine (Kd.R_reads' (e := 64) (base := w.heap.size) (ok := fun k_ => (((True ∧ some k_ ≠ (.slice Ao47 t446.length co47 : Value).ownBlock) ∧ some k_ ≠ (.slice Ao49 t453.length co49 : Value).ownBlock) ∧ some k_ ≠ (.slice Ao58 t463.length co58 : Value).ownBlock)) (n := t471.length) (c := co67) ?_).2.2; exact (by (with_reducible repeat (first | apply Kd.R_alloc | apply Kd.R_drewN | apply Kd.R_drew)); exact (Kd.R_mono (Kd.R_far (p := ⟨gb474, 2, none⟩) (Kd.R_far (p := ⟨gb474, 1, none⟩) (Kd.R_far (p := ⟨gb474, 0, none⟩) (Kd.R_types HO473.out BK474.out (by decide)) (fun _ hk => hk.2) (.int .i64 t467)) (fun _ hk => hk.2) (.slice Ao66 t468.length co66)) (fun _ hk => hk.2) (.slice Ao67 t471.length co67)) (fun _ h_ => h_.1)))); (case side8 => exact (Kd.R_reads' HO473.out).2.1); rintro e w69 ⟨v476, rfl, ho0, hb⟩; refine ⟨_, rfl, ?_⟩; replace HO445 := Aside0.mk (Kd.R_below (by (with_reducible repeat (first | apply Kd.R_alloc | apply Kd.R_drewN | apply Kd.R_drew)); exact (Kd.R_mono (Kd.R_far (p := ⟨gb474, 2, none⟩) (Kd.R_far (p := ⟨gb474, 1, none⟩) (Kd.R_far (p := ⟨gb474, 0, none⟩) (Kd.R_types HO445.out BK474.out (by decide)) (fun _ hk => hk.2) (.int .i64 t467)) (fun _ hk => hk.2) (.slice Ao66 t468.length co66)) (fun _ hk => hk.2) (.slice Ao67 t471.length co67)) (fun _ h_ => h_.1))) hb); replace HO448 := Aside0.mk (Kd.R_below (by (with_reducible repeat (first | apply Kd.R_alloc | apply Kd.R_drewN | apply Kd.R_drew)); exact (Kd.R_mono (Kd.R_far (p := ⟨gb474, 2, none⟩) (Kd.R_far (p := ⟨gb474, 1, none⟩) (Kd.R_far (p := ⟨gb474, 0, none⟩) (Kd.R_types HO448.out BK474.out (by decide)) (fun _ hk => hk.2) (.int .i64 t467)) (fun _ hk => hk.2) (.slice Ao66 t468.length co66)) (fun _ hk => hk.2) (.slice Ao67 t471.length co67)) (fun _ h_ => h_.1))) hb); replace HO452 := Aside0.mk (Kd.R_below (by (with_reducible repeat (first | apply Kd.R_alloc | apply Kd.R_drewN | apply Kd.R_drew)); exact (Kd.R_mono (Kd.R_far (p := ⟨gb474, 2, none⟩) (Kd.R_far (p := ⟨gb474, 1, none⟩) (Kd.R_far (p := ⟨gb474, 0, none⟩) (Kd.R_types HO452.out BK474.out (by decide)) (fun _ hk => hk.2) (.int .i64 t467)) (fun _ hk => hk.2) (.slice Ao66 t468.length co66)) (fun _ hk => hk.2) (.slice Ao67 t471.length co67)) (fun _ h_ => h_.1))) hb); replace HO455 := Aside0.mk (Kd.R_below (by (with_reducible repeat (first | apply Kd.R_alloc | apply Kd.R_drewN | apply Kd.R_drew)); exact (Kd.R_mono (Kd.R_far (p := ⟨gb474, 2, none⟩) (Kd.R_far (p := ⟨gb474, 1, none⟩) (Kd.R_far (p := ⟨gb474, 0, none⟩) (Kd.R_types HO455.out BK474.out (by decide)) (fun _ hk => hk.2) (.int .i64 t467)) (fun _ hk => hk.2) (.slice Ao66 t468.length co66)) (fun _ hk => hk.2) (.slice Ao67 t471.length co67)) (fun _ h_ => h_.1))) hb); replace HO462 := Aside0.mk (Kd.R_below (by (with_reducible repeat (first | apply Kd.R_alloc | apply Kd.R_drewN | apply Kd.R_drew)); exact (Kd.R_mono (Kd.R_far (p := ⟨gb474, 2, none⟩) (Kd.R_far (p := ⟨gb474, 1, none⟩) (Kd.R_far (p := ⟨gb474, 0, none⟩) (Kd.R_types HO462.out BK474.out (by decide)) (fun _ hk => hk.2) (.int .i64 t467)) (fun _ hk => hk.2) (.slice Ao66 t468.length co66)) (fun _ hk => hk.2) (.slice Ao67 t471.length co67)) (fun _ h_ => h_.1))) hb); replace HO465 := Aside0.mk (Kd.R_below (by (with_reducible repeat (first | apply Kd.R_alloc | apply Kd.R_drewN | apply Kd.R_drew)); exact (Kd.R_mono (Kd.R_far (p := ⟨gb474, 2, none⟩) (Kd.R_far (p := ⟨gb474, 1, none⟩) (Kd.R_far (p := ⟨gb474, 0, none⟩) (Kd.R_types HO465.out BK474.out (by decide)) (fun _ hk => hk.2) (.int .i64 t467)) (fun _ hk => hk.2) (.slice Ao66 t468.length co66)) (fun _ hk => hk.2) (.slice Ao67 t471.length co67)) (fun _ h_ => h_.1))) hb); replace HO470 := Aside0.mk (Kd.R_below (by (with_reducible repeat (first | apply Kd.R_alloc | apply Kd.R_drewN | apply Kd.R_drew)); exact (Kd.R_mono (Kd.R_far (p := ⟨gb474, 2, none⟩) (Kd.R_far (p := ⟨gb474, 1, none⟩) (Kd.R_far (p := ⟨gb474, 0, none⟩) (Kd.R_types HO470.out BK474.out (by decide)) (fun _ hk => hk.2) (.int .i64 t467)) (fun _ hk => hk.2) (.slice Ao66 t468.length co66)) (fun _ hk => hk.2) (.slice Ao67 t471.length co67)) (fun _ h_ => h_.1))) hb); replace HO473 := Aside0.mk (Kd.R_below (by (with_reducible repeat (first | apply Kd.R_alloc | apply Kd.R_drewN | apply Kd.R_drew)); exact (Kd.R_mono (Kd.R_far (p := ⟨gb474, 2, none⟩) (Kd.R_far (p := ⟨gb474, 1, none⟩) (Kd.R_far (p := ⟨gb474, 0, none⟩) (Kd.R_types HO473.out BK474.out (by decide)) (fun _ hk => hk.2) (.int .i64 t467)) (fun _ hk => hk.2) (.slice Ao66 t468.length co66)) (fun _ hk => hk.2) (.slice Ao67 t471.length co67)) (fun _ h_ => h_.1))) hb); have HO477 := Aside0.mk (Kd.R_lower (Kd.R_new' ho0 (Kd.R_lt (by (with_reducible repeat (first | apply Kd.R_alloc | apply Kd.R_drewN | apply Kd.R_drew)); exact (Kd.R_mono (Kd.R_far (p := ⟨gb474, 2, none⟩) (Kd.R_far (p := ⟨gb474, 1, none⟩) (Kd.R_far (p := ⟨gb474, 0, none⟩) (Kd.R_types HO458.out BK474.out (by decide)) (fun _ hk => hk.2) (.int .i64 t467)) (fun _ hk => hk.2) (.slice Ao66 t468.length co66)) (fun _ hk => hk.2) (.slice Ao67 t471.length co67)) (fun _ h_ => h_.1))))) (below_size (zB HB))); replace HO458 := Aside0.mk (Kd.R_elder' (by (with_reducible repeat (first | apply Kd.R_alloc | apply Kd.R_drewN | apply Kd.R_drew)); exact (Kd.R_mono (Kd.R_far (p := ⟨gb474, 2, none⟩) (Kd.R_far (p := ⟨gb474, 1, none⟩) (Kd.R_far (p := ⟨gb474, 0, none⟩) (Kd.R_types HO458.out BK474.out (by decide)) (fun _ hk => hk.2) (.int .i64 t467)) (fun _ hk => hk.2) (.slice Ao66 t468.length co66)) (fun _ hk => hk.2) (.slice Ao67 t471.length co67)) (fun _ h_ => h_.1))) (Kd.R_base ho0) hb); replace BK438 := Aside0.mk (blk_below (g := gb438) (o := .cells #[.int .i64 a0_0, .slice A0_1 l0_1.length c0_1, .slice A0_2 l0_2.length c0_2] 25 (0, 0)) (by (with_reducible repeat (first | refine blk_drewN ?_ _ | refine blk_drew ?_ | refine blk_alloc ?_ _)); refine blk_far ?_ NB438_474.out _; (with_reducible repeat (first | refine blk_drewN ?_ _ | refine blk_drew ?_ | refine blk_alloc ?_ _)); refine blk_far ?_ NB438_474.out _; (with_reducible repeat (first | refine blk_drewN ?_ _ | refine blk_drew ?_ | refine blk_alloc ?_ _)); refine blk_far ?_ NB438_474.out _; (with_reducible repeat (first | refine blk_drewN ?_ _ | refine blk_drew ?_ | refine blk_alloc ?_ _)); exact BK438.out) hb); replace BK439 := Aside0.mk (blk_below (g := gb439) (o := .cells #[.int .i64 a1_0, .slice A1_1 l1_1.length c1_1, .slice A1_2 l1_2.length c1_2] 25 (0, 0)) (by (with_reducible repeat (first | refine blk_drewN ?_ _ | refine blk_drew ?_ | refine blk_alloc ?_ _)); refine blk_far ?_ NB439_474.out _; (with_reducible repeat (first | refine blk_drewN ?_ _ | refine blk_drew ?_ | refine blk_alloc ?_ _)); refine blk_far ?_ NB439_474.out _; (with_reducible repeat (first | refine blk_drewN ?_ _ | refine blk_drew ?_ | refine blk_alloc ?_ _)); refine blk_far ?_ NB439_474.out _; (with_reducible repeat (first | refine blk_drewN ?_ _ | refine blk_drew ?_ | refine blk_alloc ?_ _)); exact BK439.out) hb); replace BK466 := Aside0.mk (blk_below (g := gb466) (o := .cells #[.int .i64 t459, .slice Ao57 t460.length co57, .slice Ao58 t463.length co58] 31 (0, 0)) (by (with_reducible repeat (first | refine blk_drewN ?_ _ | refine blk_drew ?_ | refine blk_alloc ?_ _)); refine blk_far ?_ NB466_474.out _; (with_reducible repeat (first | refine blk_drewN ?_ _ | refine blk_drew ?_ | refine blk_alloc ?_ _)); refine blk_far ?_ NB466_474.out _; (with_reducible repeat (first | refine blk_drewN ?_ _ | refine blk_drew ?_ | refine blk_alloc ?_ _)); refine blk_far ?_ NB466_474.out _; (with_reducible repeat (first | refine blk_drewN ?_ _ | refine blk_drew ?_ | refine blk_alloc ?_ _)); exact BK466.out) hb); replace BK474 := Aside0.mk (blk_below (g := gb474) (o := .cells #[.int .i64 t467, .slice Ao66 t468.length co66, .slice Ao67 t471.length co67] 31 (0, 0)) (by (with_reducible repeat (first | refine blk_drewN ?_ _ | refine blk_drew ?_ | refine blk_alloc ?_ _)); refine blk_put (cs := #[.int .i64 t467, .slice Ao66 t468.length co66, .slice none 0 0]) ?_ 2 _ rfl; (with_reducible repeat (first | refine blk_drewN ?_ _ | refine blk_drew ?_ | refine blk_alloc ?_ _)); refine blk_put (cs := #[.int .i64 t467, .slice none 0 0, .slice none 0 0]) ?_ 1 _ rfl; (with_reducible repeat (first | refine blk_drewN ?_ _ | refine blk_drew ?_ | refine blk_alloc ?_ _)); refine blk_put (cs := #[.int .i64 0, .slice none 0 0, .slice none 0 0]) ?_ 0 _ rfl; (with_reducible repeat (first | refine blk_drewN ?_ _ | refine blk_drew ?_ | refine blk_alloc ?_ _)); exact BK474.out) hb); replace HB := bS HB hb; (try clear hb); (try clear ho0); obtain ⟨Ao70, co70, eo70⟩ := Kd.R_slice HO477.out; subst eo70; obtain ⟨Ao71, co71, eo71⟩ := Kd.R_slice HO458.out; subst eo71) | ((with_reducible refine gate_callee (f := 22) rfl ?_); refine goesL_ (some 38) rfl rfl Try.func22 (by kernel_rfl) rfl #[.slice Ao70 t475.length co70, .slice Ao71 t456.length co71] rfl zG ?_; (with_reducible refine (laws_eqIntS.calls k _ _ t475 _ _ t456 true _ ?side1 ?side2 ?side3 ?side4 A25.out).mono ?_); (case side1 => repeat (first | exact (Kd.R_reads' HO477.out).2.2 | (with_reducible refine Kd.C_alloc ?_ _) | (with_reducible refine Kd.C_drewN ?_ _) | (with_reducible refine Kd.C_drew ?_))); (case side2 => exact (Kd.R_reads' HO477.out).2.1); (case side3 => repeat (first | exact (Kd.R_reads' HO458.out).2.2 | (with_reducible refine Kd.C_alloc ?_ _) | (with_reducible refine Kd.C_drewN ?_ _) | (with_reducible refine Kd.C_drew ?_))); (case side4 => exact (Kd.R_reads' HO458.out).2.1); rintro e w' ⟨rfl, ⟨nd, rfl⟩⟩; refine ⟨_, rfl, ?_⟩))
      (try (rw [drewN_self w69]; generalize hq_ : World.drewN w69 _ = w69; have n0_ : Aside0 (Kd.R Kd.bool 4 w69 w.heap.size (fun k_ => some k_ ≠ (.slice Ao48 t450.length co48 : Value).ownBlock ∧ some k_ ≠ (.slice Ao57 t460.length co57 : Value).ownBlock ∧ some k_ ≠ (.slice Ao66 t468.length co66 : Value).ownBlock) (.slice Ao46 t443.length co46) t443) := ⟨by rw [← hq_]; exact (by (with_reducible repeat (first | apply Kd.R_alloc | apply Kd.R_drewN | apply Kd.R_drew)); exact Kd.R_mono HO445.out (fun _ hk => ⟨hk.1.1.2, ⟨hk.1.2, hk.2⟩⟩))⟩; have n1_ : Aside0 (Kd.R k64 64 w69 w.heap.size (fun k_ => some k_ ≠ (.slice Ao49 t453.length co49 : Value).ownBlock ∧ some k_ ≠ (.slice Ao58 t463.length co58 : Value).ownBlock ∧ some k_ ≠ (.slice Ao67 t471.length co67 : Value).ownBlock) (.slice Ao47 t446.length co47) t446) := ⟨by rw [← hq_]; exact (by (with_reducible repeat (first | apply Kd.R_alloc | apply Kd.R_drewN | apply Kd.R_drew)); exact Kd.R_mono HO448.out (fun _ hk => ⟨hk.1.1.2, ⟨hk.1.2, hk.2⟩⟩))⟩; have n2_ : Aside0 (Kd.R Kd.bool 4 w69 w.heap.size (fun k_ => some k_ ≠ (.slice Ao46 t443.length co46 : Value).ownBlock ∧ some k_ ≠ (.slice Ao57 t460.length co57 : Value).ownBlock ∧ some k_ ≠ (.slice Ao66 t468.length co66 : Value).ownBlock) (.slice Ao48 t450.length co48) t450) := ⟨by rw [← hq_]; exact (by (with_reducible repeat (first | apply Kd.R_alloc | apply Kd.R_drewN | apply Kd.R_drew)); exact Kd.R_mono HO452.out (fun _ hk => ⟨hk.1.1.2, ⟨hk.1.2, hk.2⟩⟩))⟩; have n3_ : Aside0 (Kd.R k64 64 w69 w.heap.size (fun k_ => some k_ ≠ (.slice Ao47 t446.length co47 : Value).ownBlock ∧ some k_ ≠ (.slice Ao58 t463.length co58 : Value).ownBlock ∧ some k_ ≠ (.slice Ao67 t471.length co67 : Value).ownBlock) (.slice Ao49 t453.length co49) t453) := ⟨by rw [← hq_]; exact (by (with_reducible repeat (first | apply Kd.R_alloc | apply Kd.R_drewN | apply Kd.R_drew)); exact Kd.R_mono HO455.out (fun _ hk => ⟨hk.1.1.2, ⟨hk.1.2, hk.2⟩⟩))⟩; have n4_ : Aside0 (Kd.R (Kd.int .i64) 3 w69 w.heap.size (fun k_ => some k_ ≠ (.slice Ao70 t475.length co70 : Value).ownBlock) (.slice Ao71 t456.length co71) t456) := ⟨by rw [← hq_]; exact (by (with_reducible repeat (first | apply Kd.R_alloc | apply Kd.R_drewN | apply Kd.R_drew)); exact Kd.R_mono HO458.out (fun _ hk => hk.2))⟩; have n5_ : Aside0 (Kd.R Kd.bool 4 w69 w.heap.size (fun k_ => some k_ ≠ (.slice Ao46 t443.length co46 : Value).ownBlock ∧ some k_ ≠ (.slice Ao48 t450.length co48 : Value).ownBlock ∧ some k_ ≠ (.slice Ao66 t468.length co66 : Value).ownBlock) (.slice Ao57 t460.length co57) t460) := ⟨by rw [← hq_]; exact (by (with_reducible repeat (first | apply Kd.R_alloc | apply Kd.R_drewN | apply Kd.R_drew)); exact Kd.R_mono HO462.out (fun _ hk => ⟨hk.1.1.2, ⟨hk.1.2, hk.2⟩⟩))⟩; have n6_ : Aside0 (Kd.R k64 64 w69 w.heap.size (fun k_ => some k_ ≠ (.slice Ao47 t446.length co47 : Value).ownBlock ∧ some k_ ≠ (.slice Ao49 t453.length co49 : Value).ownBlock ∧ some k_ ≠ (.slice Ao67 t471.length co67 : Value).ownBlock) (.slice Ao58 t463.length co58) t463) := ⟨by rw [← hq_]; exact (by (with_reducible repeat (first | apply Kd.R_alloc | apply Kd.R_drewN | apply Kd.R_drew)); exact Kd.R_mono HO465.out (fun _ hk => ⟨hk.1.1.2, ⟨hk.1.2, hk.2⟩⟩))⟩; have n7_ : Aside0 (Kd.R Kd.bool 4 w69 w.heap.size (fun k_ => some k_ ≠ (.slice Ao46 t443.length co46 : Value).ownBlock ∧ some k_ ≠ (.slice Ao48 t450.length co48 : Value).ownBlock ∧ some k_ ≠ (.slice Ao57 t460.length co57 : Value).ownBlock) (.slice Ao66 t468.length co66) t468) := ⟨by rw [← hq_]; exact (by (with_reducible repeat (first | apply Kd.R_alloc | apply Kd.R_drewN | apply Kd.R_drew)); exact Kd.R_mono HO470.out (fun _ hk => ⟨hk.1.1.2, ⟨hk.1.2, hk.2⟩⟩))⟩; have n8_ : Aside0 (Kd.R k64 64 w69 w.heap.size (fun k_ => some k_ ≠ (.slice Ao47 t446.length co47 : Value).ownBlock ∧ some k_ ≠ (.slice Ao49 t453.length co49 : Value).ownBlock ∧ some k_ ≠ (.slice Ao58 t463.length co58 : Value).ownBlock) (.slice Ao67 t471.length co67) t471) := ⟨by rw [← hq_]; exact (by (with_reducible repeat (first | apply Kd.R_alloc | apply Kd.R_drewN | apply Kd.R_drew)); exact Kd.R_mono HO473.out (fun _ hk => ⟨hk.1.1.2, ⟨hk.1.2, hk.2⟩⟩))⟩; have n9_ : Aside0 (Kd.R (Kd.int .i64) 3 w69 w.heap.size (fun k_ => some k_ ≠ (.slice Ao71 t456.length co71 : Value).ownBlock) (.slice Ao70 t475.length co70) t475) := ⟨by rw [← hq_]; exact (by (with_reducible repeat (first | apply Kd.R_alloc | apply Kd.R_drewN | apply Kd.R_drew)); exact Kd.R_mono HO477.out (fun _ hk => hk.2))⟩; have n10_ : Aside0 (w69.heap[gb438]? = some (.cells #[.int .i64 a0_0, .slice A0_1 l0_1.length c0_1, .slice A0_2 l0_2.length c0_2] 25 (0, 0))) := ⟨by rw [← hq_]; exact (zK BK438)⟩; have n11_ : Aside0 (w69.heap[gb439]? = some (.cells #[.int .i64 a1_0, .slice A1_1 l1_1.length c1_1, .slice A1_2 l1_2.length c1_2] 25 (0, 0))) := ⟨by rw [← hq_]; exact (zK BK439)⟩; have n12_ : Aside0 (w69.heap[gb466]? = some (.cells #[.int .i64 t459, .slice Ao57 t460.length co57, .slice Ao58 t463.length co58] 31 (0, 0))) := ⟨by rw [← hq_]; exact (zK BK466)⟩; have n13_ : Aside0 (w69.heap[gb474]? = some (.cells #[.int .i64 t467, .slice Ao66 t468.length co66, .slice Ao67 t471.length co67] 31 (0, 0))) := ⟨by rw [← hq_]; exact (zK BK474)⟩; have n14_ : Aside0 (Below w.heap.size w w69) := ⟨by rw [← hq_]; exact (zB HB)⟩; clear HO445 HO448 HO452 HO455 HO458 HO462 HO465 HO470 HO473 HO477 BK438 BK439 BK466 BK474 HB hq_; have HO445 := n0_; have HO448 := n1_; have HO452 := n2_; have HO455 := n3_; have HO458 := n4_; have HO462 := n5_; have HO465 := n6_; have HO470 := n7_; have HO473 := n8_; have HO477 := n9_; have BK438 := n10_; have BK439 := n11_; have BK466 := n12_; have BK474 := n13_; have HB := n14_; clear n0_ n1_ n2_ n3_ n4_ n5_ n6_ n7_ n8_ n9_ n10_ n11_ n12_ n13_ n14_; have hcw438_0 : w69.cell? ⟨gb438, 0, none⟩ = some (.int .i64 a0_0) := bc0 BK438; have hfw438_0 := bf BK438 0; have hcw438_1 : w69.cell? ⟨gb438, 1, none⟩ = some (.slice A0_1 l0_1.length c0_1) := bc1 BK438; have hfw438_1 := bf BK438 1; have hcw438_2 : w69.cell? ⟨gb438, 2, none⟩ = some (.slice A0_2 l0_2.length c0_2) := bc2 BK438; have hfw438_2 := bf BK438 2; have hcw439_0 : w69.cell? ⟨gb439, 0, none⟩ = some (.int .i64 a1_0) := bc0 BK439; have hfw439_0 := bf BK439 0; have hcw439_1 : w69.cell? ⟨gb439, 1, none⟩ = some (.slice A1_1 l1_1.length c1_1) := bc1 BK439; have hfw439_1 := bf BK439 1; have hcw439_2 : w69.cell? ⟨gb439, 2, none⟩ = some (.slice A1_2 l1_2.length c1_2) := bc2 BK439; have hfw439_2 := bf BK439 2; have hcw466_0 : w69.cell? ⟨gb466, 0, none⟩ = some (.int .i64 t459) := bc0 BK466; have hfw466_0 := bf BK466 0; have hcw466_1 : w69.cell? ⟨gb466, 1, none⟩ = some (.slice Ao57 t460.length co57) := bc1 BK466; have hfw466_1 := bf BK466 1; have hcw466_2 : w69.cell? ⟨gb466, 2, none⟩ = some (.slice Ao58 t463.length co58) := bc2 BK466; have hfw466_2 := bf BK466 2; have hcw474_0 : w69.cell? ⟨gb474, 0, none⟩ = some (.int .i64 t467) := bc0 BK474; have hfw474_0 := bf BK474 0; have hcw474_1 : w69.cell? ⟨gb474, 1, none⟩ = some (.slice Ao66 t468.length co66) := bc1 BK474; have hfw474_1 := bf BK474 1; have hcw474_2 : w69.cell? ⟨gb474, 2, none⟩ = some (.slice Ao67 t471.length co67) := bc2 BK474; have hfw474_2 := bf BK474 2))
      replace HO445 := Aside0.mk (Kd.R_drew HO445.out)
      replace HO448 := Aside0.mk (Kd.R_drew HO448.out)
      replace HO452 := Aside0.mk (Kd.R_drew HO452.out)
      replace HO455 := Aside0.mk (Kd.R_drew HO455.out)
      replace HO458 := Aside0.mk (Kd.R_drew HO458.out)
      replace HO462 := Aside0.mk (Kd.R_drew HO462.out)
      replace HO465 := Aside0.mk (Kd.R_drew HO465.out)
      replace HO470 := Aside0.mk (Kd.R_drew HO470.out)
      replace HO473 := Aside0.mk (Kd.R_drew HO473.out)
      replace HO477 := Aside0.mk (Kd.R_drew HO477.out)
      replace BK438 := Aside0.mk (blk_drew BK438.out)
      replace BK439 := Aside0.mk (blk_drew BK439.out)
      replace BK466 := Aside0.mk (blk_drew BK466.out)
      replace BK474 := Aside0.mk (blk_drew BK474.out)
      replace HB := Aside0.mk (below_drew1 HB.out)
      refine start_ (n := 5) (S := fun w' => w'.cell? ⟨gb466, 0, none⟩ = some (.int .i64 t459) ∧ w'.cell? ⟨gb466, 1, none⟩ = some (.slice Ao57 t460.length co57) ∧ w'.cell? ⟨gb466, 2, none⟩ = some (.slice Ao58 t463.length co58) ∧ w'.cell? ⟨gb438, 0, none⟩ = some (.int .i64 a0_0) ∧ w'.cell? ⟨gb438, 1, none⟩ = some (.slice A0_1 l0_1.length c0_1) ∧ w'.cell? ⟨gb438, 2, none⟩ = some (.slice A0_2 l0_2.length c0_2)) (ds := []) #[false, false, false, false, false] (by kernel_rfl) rfl rfl ⟨bc0 BK466, bc1 BK466, bc2 BK466, bc0 BK438, bc1 BK438, bc2 BK438⟩ (fun hHeld => ?_)
      generalize w69.drew = w72 at HO445 HO448 HO452 HO455 HO458 HO462 HO465 HO470 HO473 HO477 BK438 BK439 BK466 BK474 HB hHeld ⊢
      refine take_ (i := 0) (N := some 40) (v := ?_) (a' := ?_) #[true, false, false, false, false] rfl rfl (by kernel_rfl) (fun _ _ _ h => h) (Or.inl ⟨by rfl, ?_⟩) hHeld ?_ ?_
      rotate_left
      ·rintro w' ⟨s0, s1, s2, s3, s4, s5⟩
       go_simp
       with_reducible rfl
      rotate_left
      ·simp only [Act.put, List.setIfInBounds_toArray, List.set_cons_zero, List.set_cons_succ, i64_w, i32_w]
       rfl
      refine take_ (i := 1) (N := some 41) (v := ?_) (a' := ?_) #[true, true, false, false, false] rfl rfl (by kernel_rfl) (fun _ _ _ h => h) (Or.inl ⟨by rfl, ?_⟩) hHeld ?_ ?_
      rotate_left
      ·rintro w' ⟨s0, s1, s2, s3, s4, s5⟩
       go_simp
       with_reducible rfl
      rotate_left
      ·simp only [Act.put, List.setIfInBounds_toArray, List.set_cons_zero, List.set_cons_succ, i64_w, i32_w]
       rfl
      refine one_ (i := 2) (N := some 42) #[true, true, true, false, false] rfl rfl (by kernel_rfl) (by decide) (fun K hK => ?_)
      refine goes_ Try.func11 (by kernel_rfl) rfl #[.agg #[.int .i64 a0_0, .slice A0_1 l0_1.length c0_1, .slice A0_2 l0_2.length c0_2]] (by rfl) rfl rfl zG ?_
      with_reducible refine (laws_toMachine.calls k a0_0 _ _ l0_1 _ _ l0_2 t479 t480 t483 _ ?side1 ?side2 ?side3 ?side4 A27.out).mono ?_
      (case side1 => exact cS HR0_1 HB)
      (case side2 => exact HC0_1.out)
      (case side3 => exact cS HR0_2 HB)
      (case side4 => exact HC0_2.out)
      rintro e w73 ⟨v481, v484, rfl, ho0, ho1, hb⟩
      refine ⟨_, rfl, ?_⟩
      replace HO458 := Aside0.mk (Kd.R_below (zR HO458) hb)
      replace HO477 := Aside0.mk (Kd.R_below (zR HO477) hb)
      have HO482 := Aside0.mk (Kd.R_lower (Kd.R_new' (Kd.R_new' (Kd.R_new' (Kd.R_new' ho0 (Kd.R_lt (zR HO445))) (Kd.R_lt (zR HO452))) (Kd.R_lt (zR HO462))) (Kd.R_lt (zR HO470))) (below_size (zB HB)))
      replace HO445 := Aside0.mk (Kd.R_elder' (zR HO445) (Kd.R_base ho0) hb)
      replace HO452 := Aside0.mk (Kd.R_elder' (zR HO452) (Kd.R_base ho0) hb)
      replace HO462 := Aside0.mk (Kd.R_elder' (zR HO462) (Kd.R_base ho0) hb)
      replace HO470 := Aside0.mk (Kd.R_elder' (zR HO470) (Kd.R_base ho0) hb)
      have HO485 := Aside0.mk (Kd.R_lower (Kd.R_new' (Kd.R_new' (Kd.R_new' (Kd.R_new' ho1 (Kd.R_lt (zR HO448))) (Kd.R_lt (zR HO455))) (Kd.R_lt (zR HO465))) (Kd.R_lt (zR HO473))) (below_size (zB HB)))
      replace HO448 := Aside0.mk (Kd.R_elder' (zR HO448) (Kd.R_base ho1) hb)
      replace HO455 := Aside0.mk (Kd.R_elder' (zR HO455) (Kd.R_base ho1) hb)
      replace HO465 := Aside0.mk (Kd.R_elder' (zR HO465) (Kd.R_base ho1) hb)
      replace HO473 := Aside0.mk (Kd.R_elder' (zR HO473) (Kd.R_base ho1) hb)
      replace BK438 := kB BK438 hb
      replace BK439 := kB BK439 hb
      replace BK466 := kB BK466 hb
      replace BK474 := kB BK474 hb
      replace HB := bS HB hb
      (try clear hb)
      (try clear hb2)
      (try clear hk)
      (try clear hi)
      (try clear ho0)
      (try clear ho1)
      obtain ⟨Ao74, co74, eo74⟩ := Kd.R_slice HO482.out
      (first | subst eo74 | (injection eo74 with f1_ f2_ f3_; have f4_ := f1_.symm; have f5_ := f3_.symm; clear f1_ f2_ f3_; subst f4_; subst f5_))
      obtain ⟨Ao75, co75, eo75⟩ := Kd.R_slice HO485.out
      (first | subst eo75 | (injection eo75 with f1_ f2_ f3_; have f4_ := f1_.symm; have f5_ := f3_.symm; clear f1_ f2_ f3_; subst f4_; subst f5_))
      refine hK.out _ _ ⟨bc0 BK466, bc1 BK466, bc2 BK466, bc0 BK438, bc1 BK438, bc2 BK438⟩ (fun hHeld => ?_)
      clear hK K
      refine norm_ (a' := ?_) ?_ ?_
      rotate_left
      ·show Act.put _ (some 42) _ = _
       simp only [Act.put, List.setIfInBounds_toArray, List.set_cons_zero, List.set_cons_succ, i64_w, i32_w]
       rfl
      refine one_ (i := 3) (N := some 43) #[true, true, true, true, false] rfl rfl (by kernel_rfl) (by decide) (fun K hK => ?_)
      refine goes_ Try.func14 (by kernel_rfl) rfl #[.agg #[.int .i64 t459, .slice Ao57 t460.length co57, .slice Ao58 t463.length co58], .agg #[.int .i64 t479, .slice Ao74 t480.length co74, .slice Ao75 t483.length co75]] (by rfl) rfl rfl zG ?_
      with_reducible refine (laws_eqMachine.calls k t459 _ _ t460 _ _ t463 t479 _ _ t480 _ _ t483 true _ ?side1 ?side2 ?side3 ?side4 ?side5 ?side6 ?side7 ?side8 A28.out).mono ?_
      (case side1 => repeat (first | exact (Kd.R_reads' HO462.out).2.2 | (with_reducible refine Kd.C_alloc ?_ _) | (with_reducible refine Kd.C_drewN ?_ _) | (with_reducible refine Kd.C_drew ?_)))
      (case side2 => exact (Kd.R_reads' HO462.out).2.1)
      (case side3 => repeat (first | exact (Kd.R_reads' HO465.out).2.2 | (with_reducible refine Kd.C_alloc ?_ _) | (with_reducible refine Kd.C_drewN ?_ _) | (with_reducible refine Kd.C_drew ?_)))
      (case side4 => exact (Kd.R_reads' HO465.out).2.1)
      (case side5 => repeat (first | exact (Kd.R_reads' HO482.out).2.2 | (with_reducible refine Kd.C_alloc ?_ _) | (with_reducible refine Kd.C_drewN ?_ _) | (with_reducible refine Kd.C_drew ?_)))
      (case side6 => exact (Kd.R_reads' HO482.out).2.1)
      (case side7 => repeat (first | exact (Kd.R_reads' HO485.out).2.2 | (with_reducible refine Kd.C_alloc ?_ _) | (with_reducible refine Kd.C_drewN ?_ _) | (with_reducible refine Kd.C_drew ?_)))
      (case side8 => exact (Kd.R_reads' HO485.out).2.1)
      rintro e w76 ⟨rfl, hb⟩
      refine ⟨_, rfl, ?_⟩
      replace HO445 := Aside0.mk (Kd.R_below (zR HO445) hb)
      replace HO448 := Aside0.mk (Kd.R_below (zR HO448) hb)
      replace HO452 := Aside0.mk (Kd.R_below (zR HO452) hb)
      replace HO455 := Aside0.mk (Kd.R_below (zR HO455) hb)
      replace HO458 := Aside0.mk (Kd.R_below (zR HO458) hb)
      replace HO462 := Aside0.mk (Kd.R_below (zR HO462) hb)
      replace HO465 := Aside0.mk (Kd.R_below (zR HO465) hb)
      replace HO470 := Aside0.mk (Kd.R_below (zR HO470) hb)
      replace HO473 := Aside0.mk (Kd.R_below (zR HO473) hb)
      replace HO477 := Aside0.mk (Kd.R_below (zR HO477) hb)
      replace HO482 := Aside0.mk (Kd.R_below (zR HO482) hb)
      replace HO485 := Aside0.mk (Kd.R_below (zR HO485) hb)
      replace BK438 := kB BK438 hb
      replace BK439 := kB BK439 hb
      replace BK466 := kB BK466 hb
      replace BK474 := kB BK474 hb
      replace HB := bS HB hb
      (try clear hb)
      (try clear hb2)
      (try clear hk)
      (try clear hi)
      refine hK.out _ _ ⟨bc0 BK466, bc1 BK466, bc2 BK466, bc0 BK438, bc1 BK438, bc2 BK438⟩ (fun hHeld => ?_)
      clear hK K
      refine norm_ (a' := ?_) ?_ ?_
      rotate_left
      ·show Act.put _ (some 43) _ = _
       simp only [Act.put, List.setIfInBounds_toArray, List.set_cons_zero, List.set_cons_succ, i64_w, i32_w]
       rfl
      refine pure_ (i := 4) (N := some 44) (v := ?_) (a' := ?_) #[true, true, true, true, true] rfl rfl (by kernel_rfl) (fun _ _ _ h => h) (Or.inl ⟨by rfl, ?_⟩) ?_ ?_
      rotate_left
      ·intro w'
       go_simp
       with_reducible rfl
      rotate_left
      ·simp only [Act.put, List.setIfInBounds_toArray, List.set_cons_zero, List.set_cons_succ, i64_w, i32_w]
       rfl
      refine done_ (by kernel_rfl) ?_
      try clear hHeld
      try go_wp2
      replace HO445 := Aside0.mk (Kd.R_drew HO445.out)
      replace HO448 := Aside0.mk (Kd.R_drew HO448.out)
      replace HO452 := Aside0.mk (Kd.R_drew HO452.out)
      replace HO455 := Aside0.mk (Kd.R_drew HO455.out)
      replace HO458 := Aside0.mk (Kd.R_drew HO458.out)
      replace HO462 := Aside0.mk (Kd.R_drew HO462.out)
      replace HO465 := Aside0.mk (Kd.R_drew HO465.out)
      replace HO470 := Aside0.mk (Kd.R_drew HO470.out)
      replace HO473 := Aside0.mk (Kd.R_drew HO473.out)
      replace HO477 := Aside0.mk (Kd.R_drew HO477.out)
      replace HO482 := Aside0.mk (Kd.R_drew HO482.out)
      replace HO485 := Aside0.mk (Kd.R_drew HO485.out)
      replace BK438 := Aside0.mk (blk_drew BK438.out)
      replace BK439 := Aside0.mk (blk_drew BK439.out)
      replace BK466 := Aside0.mk (blk_drew BK466.out)
      replace BK474 := Aside0.mk (blk_drew BK474.out)
      replace HB := Aside0.mk (below_drew1 HB.out)
      refine start_ (n := 5) (S := fun w' => w'.cell? ⟨gb474, 0, none⟩ = some (.int .i64 t467) ∧ w'.cell? ⟨gb474, 1, none⟩ = some (.slice Ao66 t468.length co66) ∧ w'.cell? ⟨gb474, 2, none⟩ = some (.slice Ao67 t471.length co67) ∧ w'.cell? ⟨gb439, 0, none⟩ = some (.int .i64 a1_0) ∧ w'.cell? ⟨gb439, 1, none⟩ = some (.slice A1_1 l1_1.length c1_1) ∧ w'.cell? ⟨gb439, 2, none⟩ = some (.slice A1_2 l1_2.length c1_2)) (ds := []) #[false, false, false, false, false] (by kernel_rfl) rfl rfl ⟨bc0 BK474, bc1 BK474, bc2 BK474, bc0 BK439, bc1 BK439, bc2 BK439⟩ (fun hHeld => ?_)
      generalize w76.drew = w77 at HO445 HO448 HO452 HO455 HO458 HO462 HO465 HO470 HO473 HO477 HO482 HO485 BK438 BK439 BK466 BK474 HB hHeld ⊢
      refine take_ (i := 0) (N := some 45) (v := ?_) (a' := ?_) #[true, false, false, false, false] rfl rfl (by kernel_rfl) (fun _ _ _ h => h) (Or.inl ⟨by rfl, ?_⟩) hHeld ?_ ?_
      rotate_left
      ·rintro w' ⟨s0, s1, s2, s3, s4, s5⟩
       go_simp
       with_reducible rfl
      rotate_left
      ·simp only [Act.put, List.setIfInBounds_toArray, List.set_cons_zero, List.set_cons_succ, i64_w, i32_w]
       rfl
      refine take_ (i := 1) (N := some 46) (v := ?_) (a' := ?_) #[true, true, false, false, false] rfl rfl (by kernel_rfl) (fun _ _ _ h => h) (Or.inl ⟨by rfl, ?_⟩) hHeld ?_ ?_
      rotate_left
      ·rintro w' ⟨s0, s1, s2, s3, s4, s5⟩
       go_simp
       with_reducible rfl
      rotate_left
      ·simp only [Act.put, List.setIfInBounds_toArray, List.set_cons_zero, List.set_cons_succ, i64_w, i32_w]
       rfl
      refine one_ (i := 2) (N := some 47) #[true, true, true, false, false] rfl rfl (by kernel_rfl) (by decide) (fun K hK => ?_)
      refine goes_ Try.func11 (by kernel_rfl) rfl #[.agg #[.int .i64 a1_0, .slice A1_1 l1_1.length c1_1, .slice A1_2 l1_2.length c1_2]] (by rfl) rfl rfl zG ?_
      with_reducible refine (laws_toMachine.calls k a1_0 _ _ l1_1 _ _ l1_2 t487 t488 t491 _ ?side1 ?side2 ?side3 ?side4 A30.out).mono ?_
      (case side1 => exact cS HR1_1 HB)
      (case side2 => exact HC1_1.out)
      (case side3 => exact cS HR1_2 HB)
      (case side4 => exact HC1_2.out)
      rintro e w78 ⟨v489, v492, rfl, ho0, ho1, hb⟩
      refine ⟨_, rfl, ?_⟩
      replace HO458 := Aside0.mk (Kd.R_below (zR HO458) hb)
      replace HO477 := Aside0.mk (Kd.R_below (zR HO477) hb)
      have HO490 := Aside0.mk (Kd.R_lower (Kd.R_new' (Kd.R_new' (Kd.R_new' (Kd.R_new' (Kd.R_new' ho0 (Kd.R_lt (zR HO445))) (Kd.R_lt (zR HO452))) (Kd.R_lt (zR HO462))) (Kd.R_lt (zR HO470))) (Kd.R_lt (zR HO482))) (below_size (zB HB)))
      replace HO445 := Aside0.mk (Kd.R_elder' (zR HO445) (Kd.R_base ho0) hb)
      replace HO452 := Aside0.mk (Kd.R_elder' (zR HO452) (Kd.R_base ho0) hb)
      replace HO462 := Aside0.mk (Kd.R_elder' (zR HO462) (Kd.R_base ho0) hb)
      replace HO470 := Aside0.mk (Kd.R_elder' (zR HO470) (Kd.R_base ho0) hb)
      replace HO482 := Aside0.mk (Kd.R_elder' (zR HO482) (Kd.R_base ho0) hb)
      have HO493 := Aside0.mk (Kd.R_lower (Kd.R_new' (Kd.R_new' (Kd.R_new' (Kd.R_new' (Kd.R_new' ho1 (Kd.R_lt (zR HO448))) (Kd.R_lt (zR HO455))) (Kd.R_lt (zR HO465))) (Kd.R_lt (zR HO473))) (Kd.R_lt (zR HO485))) (below_size (zB HB)))
      replace HO448 := Aside0.mk (Kd.R_elder' (zR HO448) (Kd.R_base ho1) hb)
      replace HO455 := Aside0.mk (Kd.R_elder' (zR HO455) (Kd.R_base ho1) hb)
      replace HO465 := Aside0.mk (Kd.R_elder' (zR HO465) (Kd.R_base ho1) hb)
      replace HO473 := Aside0.mk (Kd.R_elder' (zR HO473) (Kd.R_base ho1) hb)
      replace HO485 := Aside0.mk (Kd.R_elder' (zR HO485) (Kd.R_base ho1) hb)
      replace BK438 := kB BK438 hb
      replace BK439 := kB BK439 hb
      replace BK466 := kB BK466 hb
      replace BK474 := kB BK474 hb
      replace HB := bS HB hb
      (try clear hb)
      (try clear hb2)
      (try clear hk)
      (try clear hi)
      (try clear ho0)
      (try clear ho1)
      obtain ⟨Ao79, co79, eo79⟩ := Kd.R_slice HO490.out
      (first | subst eo79 | (injection eo79 with f1_ f2_ f3_; have f4_ := f1_.symm; have f5_ := f3_.symm; clear f1_ f2_ f3_; subst f4_; subst f5_))
      obtain ⟨Ao80, co80, eo80⟩ := Kd.R_slice HO493.out
      (first | subst eo80 | (injection eo80 with f1_ f2_ f3_; have f4_ := f1_.symm; have f5_ := f3_.symm; clear f1_ f2_ f3_; subst f4_; subst f5_))
      refine hK.out _ _ ⟨bc0 BK474, bc1 BK474, bc2 BK474, bc0 BK439, bc1 BK439, bc2 BK439⟩ (fun hHeld => ?_)
      clear hK K
      refine norm_ (a' := ?_) ?_ ?_
      rotate_left
      ·show Act.put _ (some 47) _ = _
       simp only [Act.put, List.setIfInBounds_toArray, List.set_cons_zero, List.set_cons_succ, i64_w, i32_w]
       rfl
      refine one_ (i := 3) (N := some 48) #[true, true, true, true, false] rfl rfl (by kernel_rfl) (by decide) (fun K hK => ?_)
      refine goes_ Try.func14 (by kernel_rfl) rfl #[.agg #[.int .i64 t467, .slice Ao66 t468.length co66, .slice Ao67 t471.length co67], .agg #[.int .i64 t487, .slice Ao79 t488.length co79, .slice Ao80 t491.length co80]] (by rfl) rfl rfl zG ?_
      with_reducible refine (laws_eqMachine.calls k t467 _ _ t468 _ _ t471 t487 _ _ t488 _ _ t491 true _ ?side1 ?side2 ?side3 ?side4 ?side5 ?side6 ?side7 ?side8 A31.out).mono ?_
      (case side1 => repeat (first | exact (Kd.R_reads' HO470.out).2.2 | (with_reducible refine Kd.C_alloc ?_ _) | (with_reducible refine Kd.C_drewN ?_ _) | (with_reducible refine Kd.C_drew ?_)))
      (case side2 => exact (Kd.R_reads' HO470.out).2.1)
      (case side3 => repeat (first | exact (Kd.R_reads' HO473.out).2.2 | (with_reducible refine Kd.C_alloc ?_ _) | (with_reducible refine Kd.C_drewN ?_ _) | (with_reducible refine Kd.C_drew ?_)))
      (case side4 => exact (Kd.R_reads' HO473.out).2.1)
      (case side5 => repeat (first | exact (Kd.R_reads' HO490.out).2.2 | (with_reducible refine Kd.C_alloc ?_ _) | (with_reducible refine Kd.C_drewN ?_ _) | (with_reducible refine Kd.C_drew ?_)))
      (case side6 => exact (Kd.R_reads' HO490.out).2.1)
      (case side7 => repeat (first | exact (Kd.R_reads' HO493.out).2.2 | (with_reducible refine Kd.C_alloc ?_ _) | (with_reducible refine Kd.C_drewN ?_ _) | (with_reducible refine Kd.C_drew ?_)))
      (case side8 => exact (Kd.R_reads' HO493.out).2.1)
      rintro e w81 ⟨rfl, hb⟩
      refine ⟨_, rfl, ?_⟩
      replace HO445 := Aside0.mk (Kd.R_below (zR HO445) hb)
      replace HO448 := Aside0.mk (Kd.R_below (zR HO448) hb)
      replace HO452 := Aside0.mk (Kd.R_below (zR HO452) hb)
      replace HO455 := Aside0.mk (Kd.R_below (zR HO455) hb)
      replace HO458 := Aside0.mk (Kd.R_below (zR HO458) hb)
      replace HO462 := Aside0.mk (Kd.R_below (zR HO462) hb)
      replace HO465 := Aside0.mk (Kd.R_below (zR HO465) hb)
      replace HO470 := Aside0.mk (Kd.R_below (zR HO470) hb)
      replace HO473 := Aside0.mk (Kd.R_below (zR HO473) hb)
      replace HO477 := Aside0.mk (Kd.R_below (zR HO477) hb)
      replace HO482 := Aside0.mk (Kd.R_below (zR HO482) hb)
      replace HO485 := Aside0.mk (Kd.R_below (zR HO485) hb)
      replace HO490 := Aside0.mk (Kd.R_below (zR HO490) hb)
      replace HO493 := Aside0.mk (Kd.R_below (zR HO493) hb)
      replace BK438 := kB BK438 hb
      replace BK439 := kB BK439 hb
      replace BK466 := kB BK466 hb
      replace BK474 := kB BK474 hb
      replace HB := bS HB hb
      (try clear hb)
      (try clear hb2)
      (try clear hk)
      (try clear hi)
      refine hK.out _ _ ⟨bc0 BK474, bc1 BK474, bc2 BK474, bc0 BK439, bc1 BK439, bc2 BK439⟩ (fun hHeld => ?_)
      clear hK K
      refine norm_ (a' := ?_) ?_ ?_
      rotate_left
      ·show Act.put _ (some 48) _ = _
       simp only [Act.put, List.setIfInBounds_toArray, List.set_cons_zero, List.set_cons_succ, i64_w, i32_w]
       rfl
      refine pure_ (i := 4) (N := some 49) (v := ?_) (a' := ?_) #[true, true, true, true, true] rfl rfl (by kernel_rfl) (fun _ _ _ h => h) (Or.inl ⟨by rfl, ?_⟩) ?_ ?_
      rotate_left
      ·intro w'
       go_simp
       with_reducible rfl
      rotate_left
      ·simp only [Act.put, List.setIfInBounds_toArray, List.set_cons_zero, List.set_cons_succ, i64_w, i32_w]
       rfl
      refine done_ (by kernel_rfl) ?_
      try clear hHeld
      have hcz82_0 := bc0 BK466
      have hcz82_1 := bc1 BK466
      have hcz82_2 := bc2 BK466
      have hfz82_0 := bf BK466 0
      have hfz82_1 := bf BK466 1
      have hfz82_2 := bf BK466 2
      go_upto_region 21 with (first | ((with_reducible refine gate_callee (f := 15) rfl ?_); refine goesL_ (some 52) rfl rfl Try.func15 (by kernel_rfl) rfl #[.agg #[.int .i64 t459, .slice Ao57 t460.length co57, .slice Ao58 t463.length co58], .int .i64 1] rfl zG ?_; (with_reducible refine (laws_markMachine.calls k t459 (fun k_ => some k_ = (.slice Ao57 t460.length co57 : Value).ownBlock) (.slice Ao57 t460.length co57) t460 (fun k_ => some k_ = (.slice Ao58 t463.length co58 : Value).ownBlock) (.slice Ao58 t463.length co58) t463 1 t495 t496 t497 w _ ?side1 ?side2 ?side3 A33.out).mono ?_); (case side1 => repeat (first | (with_reducible first | exact HB.out | apply below_alloc | apply pw_below_drewN | apply below_drew1 | refine below_set ?_ GE438.out | refine below_set ?_ GE439.out | refine below_set ?_ GE466.out | refine below_set ?_ GE474.out) | exact HB.out)); (case side2 => exact Kd.R_tight rfl HO462.out); (case side3 => exact Kd.R_tight rfl HO465.out); rintro e w83 ⟨rfl, hy0, hy1, hb, hkp⟩; refine ⟨_, rfl, ?_⟩; replace BK438 := Aside0.mk (blk_kept (zK BK438) hkp (fun hs_ => Or.elim hs_ (fun e_ => (fun e_ => (Kd.R_ne HO462.out BK438.out (by decide)) e_) e_) (fun e_ => (fun e_ => (Kd.R_ne HO465.out BK438.out (by decide)) e_) e_))); replace BK439 := Aside0.mk (blk_kept (zK BK439) hkp (fun hs_ => Or.elim hs_ (fun e_ => (fun e_ => (Kd.R_ne HO462.out BK439.out (by decide)) e_) e_) (fun e_ => (fun e_ => (Kd.R_ne HO465.out BK439.out (by decide)) e_) e_))); replace HO445 := Aside0.mk (Kd.R_mono (ok' := fun k_ => some k_ ≠ (.slice Ao48 t450.length co48 : Value).ownBlock ∧ some k_ ≠ (.slice Ao57 t460.length co57 : Value).ownBlock ∧ some k_ ≠ (.slice Ao66 t468.length co66 : Value).ownBlock ∧ some k_ ≠ (.slice Ao74 t480.length co74 : Value).ownBlock ∧ some k_ ≠ (.slice Ao79 t488.length co79 : Value).ownBlock) (Kd.R_keptB ((Kd.R_apart' HO445.out (Kd.R_typed HO465.out) (by decide))) hkp (fun k_ hk_ hs_ => Or.elim hs_ (fun e_ => ne_pick hk_ e_) (fun e_ => ne_pick hk_ e_))) (fun k_ hk_ => ⟨(pick hk_), (pick hk_), (pick hk_), (pick hk_), (pick hk_)⟩)); replace HO448 := Aside0.mk (Kd.R_mono (ok' := fun k_ => some k_ ≠ (.slice Ao49 t453.length co49 : Value).ownBlock ∧ some k_ ≠ (.slice Ao58 t463.length co58 : Value).ownBlock ∧ some k_ ≠ (.slice Ao67 t471.length co67 : Value).ownBlock ∧ some k_ ≠ (.slice Ao75 t483.length co75 : Value).ownBlock ∧ some k_ ≠ (.slice Ao80 t491.length co80 : Value).ownBlock) (Kd.R_keptB ((Kd.R_apart' HO448.out (Kd.R_typed HO462.out) (by decide))) hkp (fun k_ hk_ hs_ => Or.elim hs_ (fun e_ => ne_pick hk_ e_) (fun e_ => ne_pick hk_ e_))) (fun k_ hk_ => ⟨(pick hk_), (pick hk_), (pick hk_), (pick hk_), (pick hk_)⟩)); replace HO452 := Aside0.mk (Kd.R_mono (ok' := fun k_ => some k_ ≠ (.slice Ao46 t443.length co46 : Value).ownBlock ∧ some k_ ≠ (.slice Ao57 t460.length co57 : Value).ownBlock ∧ some k_ ≠ (.slice Ao66 t468.length co66 : Value).ownBlock ∧ some k_ ≠ (.slice Ao74 t480.length co74 : Value).ownBlock ∧ some k_ ≠ (.slice Ao79 t488.length co79 : Value).ownBlock) (Kd.R_keptB ((Kd.R_apart' HO452.out (Kd.R_typed HO465.out) (by decide))) hkp (fun k_ hk_ hs_ => Or.elim hs_ (fun e_ => ne_pick hk_ e_) (fun e_ => ne_pick hk_ e_))) (fun k_ hk_ => ⟨(pick hk_), (pick hk_), (pick hk_), (pick hk_), (pick hk_)⟩)); replace HO455 := Aside0.mk (Kd.R_mono (ok' := fun k_ => some k_ ≠ (.slice Ao47 t446.length co47 : Value).ownBlock ∧ some k_ ≠ (.slice Ao58 t463.length co58 : Value).ownBlock ∧ some k_ ≠ (.slice Ao67 t471.length co67 : Value).ownBlock ∧ some k_ ≠ (.slice Ao75 t483.length co75 : Value).ownBlock ∧ some k_ ≠ (.slice Ao80 t491.length co80 : Value).ownBlock) (Kd.R_keptB ((Kd.R_apart' HO455.out (Kd.R_typed HO462.out) (by decide))) hkp (fun k_ hk_ hs_ => Or.elim hs_ (fun e_ => ne_pick hk_ e_) (fun e_ => ne_pick hk_ e_))) (fun k_ hk_ => ⟨(pick hk_), (pick hk_), (pick hk_), (pick hk_), (pick hk_)⟩)); replace HO458 := Aside0.mk (Kd.R_mono (ok' := fun k_ => some k_ ≠ (.slice Ao70 t475.length co70 : Value).ownBlock) (Kd.R_keptB ((Kd.R_apart' (Kd.R_apart' HO458.out (Kd.R_typed HO462.out) (by decide)) (Kd.R_typed HO465.out) (by decide))) hkp (fun k_ hk_ hs_ => Or.elim hs_ (fun e_ => ne_pick hk_ e_) (fun e_ => ne_pick hk_ e_))) (fun k_ hk_ => (pick hk_))); replace BK466 := Aside0.mk (blk_kept (zK BK466) hkp (fun hs_ => Or.elim hs_ (fun e_ => (fun e_ => (Kd.R_ne HO462.out BK466.out (by decide)) e_) e_) (fun e_ => (fun e_ => (Kd.R_ne HO465.out BK466.out (by decide)) e_) e_))); replace HO470 := Aside0.mk (Kd.R_mono (ok' := fun k_ => some k_ ≠ (.slice Ao46 t443.length co46 : Value).ownBlock ∧ some k_ ≠ (.slice Ao48 t450.length co48 : Value).ownBlock ∧ some k_ ≠ (.slice Ao57 t460.length co57 : Value).ownBlock ∧ some k_ ≠ (.slice Ao74 t480.length co74 : Value).ownBlock ∧ some k_ ≠ (.slice Ao79 t488.length co79 : Value).ownBlock) (Kd.R_keptB ((Kd.R_apart' HO470.out (Kd.R_typed HO465.out) (by decide))) hkp (fun k_ hk_ hs_ => Or.elim hs_ (fun e_ => ne_pick hk_ e_) (fun e_ => ne_pick hk_ e_))) (fun k_ hk_ => ⟨(pick hk_), (pick hk_), (pick hk_), (pick hk_), (pick hk_)⟩)); replace HO473 := Aside0.mk (Kd.R_mono (ok' := fun k_ => some k_ ≠ (.slice Ao47 t446.length co47 : Value).ownBlock ∧ some k_ ≠ (.slice Ao49 t453.length co49 : Value).ownBlock ∧ some k_ ≠ (.slice Ao58 t463.length co58 : Value).ownBlock ∧ some k_ ≠ (.slice Ao75 t483.length co75 : Value).ownBlock ∧ some k_ ≠ (.slice Ao80 t491.length co80 : Value).ownBlock) (Kd.R_keptB ((Kd.R_apart' HO473.out (Kd.R_typed HO462.out) (by decide))) hkp (fun k_ hk_ hs_ => Or.elim hs_ (fun e_ => ne_pick hk_ e_) (fun e_ => ne_pick hk_ e_))) (fun k_ hk_ => ⟨(pick hk_), (pick hk_), (pick hk_), (pick hk_), (pick hk_)⟩)); replace BK474 := Aside0.mk (blk_kept (zK BK474) hkp (fun hs_ => Or.elim hs_ (fun e_ => (fun e_ => (Kd.R_ne HO462.out BK474.out (by decide)) e_) e_) (fun e_ => (fun e_ => (Kd.R_ne HO465.out BK474.out (by decide)) e_) e_))); replace HO477 := Aside0.mk (Kd.R_mono (ok' := fun k_ => some k_ ≠ (.slice Ao71 t456.length co71 : Value).ownBlock) (Kd.R_keptB ((Kd.R_apart' (Kd.R_apart' HO477.out (Kd.R_typed HO462.out) (by decide)) (Kd.R_typed HO465.out) (by decide))) hkp (fun k_ hk_ hs_ => Or.elim hs_ (fun e_ => ne_pick hk_ e_) (fun e_ => ne_pick hk_ e_))) (fun k_ hk_ => (pick hk_))); replace HO482 := Aside0.mk (Kd.R_mono (ok' := fun k_ => some k_ ≠ (.slice Ao46 t443.length co46 : Value).ownBlock ∧ some k_ ≠ (.slice Ao48 t450.length co48 : Value).ownBlock ∧ some k_ ≠ (.slice Ao57 t460.length co57 : Value).ownBlock ∧ some k_ ≠ (.slice Ao66 t468.length co66 : Value).ownBlock ∧ some k_ ≠ (.slice Ao79 t488.length co79 : Value).ownBlock) (Kd.R_keptB ((Kd.R_apart' HO482.out (Kd.R_typed HO465.out) (by decide))) hkp (fun k_ hk_ hs_ => Or.elim hs_ (fun e_ => ne_pick hk_ e_) (fun e_ => ne_pick hk_ e_))) (fun k_ hk_ => ⟨(pick hk_), (pick hk_), (pick hk_), (pick hk_), (pick hk_)⟩)); replace HO485 := Aside0.mk (Kd.R_mono (ok' := fun k_ => some k_ ≠ (.slice Ao47 t446.length co47 : Value).ownBlock ∧ some k_ ≠ (.slice Ao49 t453.length co49 : Value).ownBlock ∧ some k_ ≠ (.slice Ao58 t463.length co58 : Value).ownBlock ∧ some k_ ≠ (.slice Ao67 t471.length co67 : Value).ownBlock ∧ some k_ ≠ (.slice Ao80 t491.length co80 : Value).ownBlock) (Kd.R_keptB ((Kd.R_apart' HO485.out (Kd.R_typed HO462.out) (by decide))) hkp (fun k_ hk_ hs_ => Or.elim hs_ (fun e_ => ne_pick hk_ e_) (fun e_ => ne_pick hk_ e_))) (fun k_ hk_ => ⟨(pick hk_), (pick hk_), (pick hk_), (pick hk_), (pick hk_)⟩)); replace HO490 := Aside0.mk (Kd.R_mono (ok' := fun k_ => some k_ ≠ (.slice Ao46 t443.length co46 : Value).ownBlock ∧ some k_ ≠ (.slice Ao48 t450.length co48 : Value).ownBlock ∧ some k_ ≠ (.slice Ao57 t460.length co57 : Value).ownBlock ∧ some k_ ≠ (.slice Ao66 t468.length co66 : Value).ownBlock ∧ some k_ ≠ (.slice Ao74 t480.length co74 : Value).ownBlock) (Kd.R_keptB ((Kd.R_apart' HO490.out (Kd.R_typed HO465.out) (by decide))) hkp (fun k_ hk_ hs_ => Or.elim hs_ (fun e_ => ne_pick hk_ e_) (fun e_ => ne_pick hk_ e_))) (fun k_ hk_ => ⟨(pick hk_), (pick hk_), (pick hk_), (pick hk_), (pick hk_)⟩)); replace HO465 := Aside0.mk (Kd.R_reok rfl hy1 (fun k_ e_ => HO465.out.1 k_ e_)); replace HO493 := Aside0.mk (Kd.R_mono (ok' := fun k_ => some k_ ≠ (.slice Ao47 t446.length co47 : Value).ownBlock ∧ some k_ ≠ (.slice Ao49 t453.length co49 : Value).ownBlock ∧ some k_ ≠ (.slice Ao58 t463.length co58 : Value).ownBlock ∧ some k_ ≠ (.slice Ao67 t471.length co67 : Value).ownBlock ∧ some k_ ≠ (.slice Ao75 t483.length co75 : Value).ownBlock) (Kd.R_keptB ((Kd.R_apart' HO493.out (Kd.R_typed HO462.out) (by decide))) hkp (fun k_ hk_ hs_ => Or.elim hs_ (fun e_ => ne_pick hk_ e_) (fun e_ => ne_pick hk_ e_))) (fun k_ hk_ => ⟨(pick hk_), (pick hk_), (pick hk_), (pick hk_), (pick hk_)⟩)); replace HO462 := Aside0.mk (Kd.R_reok rfl hy0 (fun k_ e_ => HO462.out.1 k_ e_)); replace HB := Aside0.mk (hb); (try clear hb); (try clear hkp); (try clear hy0); (try clear hy1); have hcz84_0 := bc0 BK474; have hcz84_1 := bc1 BK474; have hcz84_2 := bc2 BK474; have hfz84_0 := bf BK474 0; have hfz84_1 := bf BK474 1; have hfz84_2 := bf BK474 2) | ((with_reducible refine gate_callee (f := 15) rfl ?_); refine goesL_ (some 55) rfl rfl Try.func15 (by kernel_rfl) rfl #[.agg #[.int .i64 t467, .slice Ao66 t468.length co66, .slice Ao67 t471.length co67], .int .i64 t495] rfl zG ?_; (with_reducible refine (laws_markMachine.calls k t467 (fun k_ => some k_ = (.slice Ao66 t468.length co66 : Value).ownBlock) (.slice Ao66 t468.length co66) t468 (fun k_ => some k_ = (.slice Ao67 t471.length co67 : Value).ownBlock) (.slice Ao67 t471.length co67) t471 t495 t498 t499 t500 w _ ?side1 ?side2 ?side3 A34.out).mono ?_); (case side1 => repeat (first | (with_reducible first | exact HB.out | apply below_alloc | apply pw_below_drewN | apply below_drew1 | refine below_set ?_ GE438.out | refine below_set ?_ GE439.out | refine below_set ?_ GE466.out | refine below_set ?_ GE474.out) | exact HB.out)); (case side2 => exact Kd.R_tight rfl HO470.out); (case side3 => exact Kd.R_tight rfl HO473.out); rintro e w85 ⟨rfl, hy0, hy1, hb, hkp⟩; refine ⟨_, rfl, ?_⟩; replace BK438 := Aside0.mk (blk_kept (zK BK438) hkp (fun hs_ => Or.elim hs_ (fun e_ => (fun e_ => (Kd.R_ne HO470.out BK438.out (by decide)) e_) e_) (fun e_ => (fun e_ => (Kd.R_ne HO473.out BK438.out (by decide)) e_) e_))); replace BK439 := Aside0.mk (blk_kept (zK BK439) hkp (fun hs_ => Or.elim hs_ (fun e_ => (fun e_ => (Kd.R_ne HO470.out BK439.out (by decide)) e_) e_) (fun e_ => (fun e_ => (Kd.R_ne HO473.out BK439.out (by decide)) e_) e_))); replace HO445 := Aside0.mk (Kd.R_mono (ok' := fun k_ => some k_ ≠ (.slice Ao48 t450.length co48 : Value).ownBlock ∧ some k_ ≠ (.slice Ao57 t460.length co57 : Value).ownBlock ∧ some k_ ≠ (.slice Ao66 t468.length co66 : Value).ownBlock ∧ some k_ ≠ (.slice Ao74 t480.length co74 : Value).ownBlock ∧ some k_ ≠ (.slice Ao79 t488.length co79 : Value).ownBlock) (Kd.R_keptB ((Kd.R_apart' HO445.out (Kd.R_typed HO473.out) (by decide))) hkp (fun k_ hk_ hs_ => Or.elim hs_ (fun e_ => ne_pick hk_ e_) (fun e_ => ne_pick hk_ e_))) (fun k_ hk_ => ⟨(pick hk_), (pick hk_), (pick hk_), (pick hk_), (pick hk_)⟩)); replace HO448 := Aside0.mk (Kd.R_mono (ok' := fun k_ => some k_ ≠ (.slice Ao49 t453.length co49 : Value).ownBlock ∧ some k_ ≠ (.slice Ao58 t463.length co58 : Value).ownBlock ∧ some k_ ≠ (.slice Ao67 t471.length co67 : Value).ownBlock ∧ some k_ ≠ (.slice Ao75 t483.length co75 : Value).ownBlock ∧ some k_ ≠ (.slice Ao80 t491.length co80 : Value).ownBlock) (Kd.R_keptB ((Kd.R_apart' HO448.out (Kd.R_typed HO470.out) (by decide))) hkp (fun k_ hk_ hs_ => Or.elim hs_ (fun e_ => ne_pick hk_ e_) (fun e_ => ne_pick hk_ e_))) (fun k_ hk_ => ⟨(pick hk_), (pick hk_), (pick hk_), (pick hk_), (pick hk_)⟩)); replace HO452 := Aside0.mk (Kd.R_mono (ok' := fun k_ => some k_ ≠ (.slice Ao46 t443.length co46 : Value).ownBlock ∧ some k_ ≠ (.slice Ao57 t460.length co57 : Value).ownBlock ∧ some k_ ≠ (.slice Ao66 t468.length co66 : Value).ownBlock ∧ some k_ ≠ (.slice Ao74 t480.length co74 : Value).ownBlock ∧ some k_ ≠ (.slice Ao79 t488.length co79 : Value).ownBlock) (Kd.R_keptB ((Kd.R_apart' HO452.out (Kd.R_typed HO473.out) (by decide))) hkp (fun k_ hk_ hs_ => Or.elim hs_ (fun e_ => ne_pick hk_ e_) (fun e_ => ne_pick hk_ e_))) (fun k_ hk_ => ⟨(pick hk_), (pick hk_), (pick hk_), (pick hk_), (pick hk_)⟩)); replace HO455 := Aside0.mk (Kd.R_mono (ok' := fun k_ => some k_ ≠ (.slice Ao47 t446.length co47 : Value).ownBlock ∧ some k_ ≠ (.slice Ao58 t463.length co58 : Value).ownBlock ∧ some k_ ≠ (.slice Ao67 t471.length co67 : Value).ownBlock ∧ some k_ ≠ (.slice Ao75 t483.length co75 : Value).ownBlock ∧ some k_ ≠ (.slice Ao80 t491.length co80 : Value).ownBlock) (Kd.R_keptB ((Kd.R_apart' HO455.out (Kd.R_typed HO470.out) (by decide))) hkp (fun k_ hk_ hs_ => Or.elim hs_ (fun e_ => ne_pick hk_ e_) (fun e_ => ne_pick hk_ e_))) (fun k_ hk_ => ⟨(pick hk_), (pick hk_), (pick hk_), (pick hk_), (pick hk_)⟩)); replace HO458 := Aside0.mk (Kd.R_mono (ok' := fun k_ => some k_ ≠ (.slice Ao70 t475.length co70 : Value).ownBlock) (Kd.R_keptB ((Kd.R_apart' (Kd.R_apart' HO458.out (Kd.R_typed HO470.out) (by decide)) (Kd.R_typed HO473.out) (by decide))) hkp (fun k_ hk_ hs_ => Or.elim hs_ (fun e_ => ne_pick hk_ e_) (fun e_ => ne_pick hk_ e_))) (fun k_ hk_ => (pick hk_))); replace HO462 := Aside0.mk (Kd.R_mono (ok' := fun k_ => some k_ ≠ (.slice Ao46 t443.length co46 : Value).ownBlock ∧ some k_ ≠ (.slice Ao48 t450.length co48 : Value).ownBlock ∧ some k_ ≠ (.slice Ao66 t468.length co66 : Value).ownBlock ∧ some k_ ≠ (.slice Ao74 t480.length co74 : Value).ownBlock ∧ some k_ ≠ (.slice Ao79 t488.length co79 : Value).ownBlock) (Kd.R_keptB ((Kd.R_apart' HO462.out (Kd.R_typed HO473.out) (by decide))) hkp (fun k_ hk_ hs_ => Or.elim hs_ (fun e_ => ne_pick hk_ e_) (fun e_ => ne_pick hk_ e_))) (fun k_ hk_ => ⟨(pick hk_), (pick hk_), (pick hk_), (pick hk_), (pick hk_)⟩)); replace HO465 := Aside0.mk (Kd.R_mono (ok' := fun k_ => some k_ ≠ (.slice Ao47 t446.length co47 : Value).ownBlock ∧ some k_ ≠ (.slice Ao49 t453.length co49 : Value).ownBlock ∧ some k_ ≠ (.slice Ao67 t471.length co67 : Value).ownBlock ∧ some k_ ≠ (.slice Ao75 t483.length co75 : Value).ownBlock ∧ some k_ ≠ (.slice Ao80 t491.length co80 : Value).ownBlock) (Kd.R_keptB ((Kd.R_apart' HO465.out (Kd.R_typed HO470.out) (by decide))) hkp (fun k_ hk_ hs_ => Or.elim hs_ (fun e_ => ne_pick hk_ e_) (fun e_ => ne_pick hk_ e_))) (fun k_ hk_ => ⟨(pick hk_), (pick hk_), (pick hk_), (pick hk_), (pick hk_)⟩)); replace BK466 := Aside0.mk (blk_kept (zK BK466) hkp (fun hs_ => Or.elim hs_ (fun e_ => (fun e_ => (Kd.R_ne HO470.out BK466.out (by decide)) e_) e_) (fun e_ => (fun e_ => (Kd.R_ne HO473.out BK466.out (by decide)) e_) e_))); replace BK474 := Aside0.mk (blk_kept (zK BK474) hkp (fun hs_ => Or.elim hs_ (fun e_ => (fun e_ => (Kd.R_ne HO470.out BK474.out (by decide)) e_) e_) (fun e_ => (fun e_ => (Kd.R_ne HO473.out BK474.out (by decide)) e_) e_))); replace HO477 := Aside0.mk (Kd.R_mono (ok' := fun k_ => some k_ ≠ (.slice Ao71 t456.length co71 : Value).ownBlock) (Kd.R_keptB ((Kd.R_apart' (Kd.R_apart' HO477.out (Kd.R_typed HO470.out) (by decide)) (Kd.R_typed HO473.out) (by decide))) hkp (fun k_ hk_ hs_ => Or.elim hs_ (fun e_ => ne_pick hk_ e_) (fun e_ => ne_pick hk_ e_))) (fun k_ hk_ => (pick hk_))); replace HO482 := Aside0.mk (Kd.R_mono (ok' := fun k_ => some k_ ≠ (.slice Ao46 t443.length co46 : Value).ownBlock ∧ some k_ ≠ (.slice Ao48 t450.length co48 : Value).ownBlock ∧ some k_ ≠ (.slice Ao57 t460.length co57 : Value).ownBlock ∧ some k_ ≠ (.slice Ao66 t468.length co66 : Value).ownBlock ∧ some k_ ≠ (.slice Ao79 t488.length co79 : Value).ownBlock) (Kd.R_keptB ((Kd.R_apart' HO482.out (Kd.R_typed HO473.out) (by decide))) hkp (fun k_ hk_ hs_ => Or.elim hs_ (fun e_ => ne_pick hk_ e_) (fun e_ => ne_pick hk_ e_))) (fun k_ hk_ => ⟨(pick hk_), (pick hk_), (pick hk_), (pick hk_), (pick hk_)⟩)); replace HO485 := Aside0.mk (Kd.R_mono (ok' := fun k_ => some k_ ≠ (.slice Ao47 t446.length co47 : Value).ownBlock ∧ some k_ ≠ (.slice Ao49 t453.length co49 : Value).ownBlock ∧ some k_ ≠ (.slice Ao58 t463.length co58 : Value).ownBlock ∧ some k_ ≠ (.slice Ao67 t471.length co67 : Value).ownBlock ∧ some k_ ≠ (.slice Ao80 t491.length co80 : Value).ownBlock) (Kd.R_keptB ((Kd.R_apart' HO485.out (Kd.R_typed HO470.out) (by decide))) hkp (fun k_ hk_ hs_ => Or.elim hs_ (fun e_ => ne_pick hk_ e_) (fun e_ => ne_pick hk_ e_))) (fun k_ hk_ => ⟨(pick hk_), (pick hk_), (pick hk_), (pick hk_), (pick hk_)⟩)); replace HO490 := Aside0.mk (Kd.R_mono (ok' := fun k_ => some k_ ≠ (.slice Ao46 t443.length co46 : Value).ownBlock ∧ some k_ ≠ (.slice Ao48 t450.length co48 : Value).ownBlock ∧ some k_ ≠ (.slice Ao57 t460.length co57 : Value).ownBlock ∧ some k_ ≠ (.slice Ao66 t468.length co66 : Value).ownBlock ∧ some k_ ≠ (.slice Ao74 t480.length co74 : Value).ownBlock) (Kd.R_keptB ((Kd.R_apart' HO490.out (Kd.R_typed HO473.out) (by decide))) hkp (fun k_ hk_ hs_ => Or.elim hs_ (fun e_ => ne_pick hk_ e_) (fun e_ => ne_pick hk_ e_))) (fun k_ hk_ => ⟨(pick hk_), (pick hk_), (pick hk_), (pick hk_), (pick hk_)⟩)); replace HO473 := Aside0.mk (Kd.R_reok rfl hy1 (fun k_ e_ => HO473.out.1 k_ e_)); replace HO493 := Aside0.mk (Kd.R_mono (ok' := fun k_ => some k_ ≠ (.slice Ao47 t446.length co47 : Value).ownBlock ∧ some k_ ≠ (.slice Ao49 t453.length co49 : Value).ownBlock ∧ some k_ ≠ (.slice Ao58 t463.length co58 : Value).ownBlock ∧ some k_ ≠ (.slice Ao67 t471.length co67 : Value).ownBlock ∧ some k_ ≠ (.slice Ao75 t483.length co75 : Value).ownBlock) (Kd.R_keptB ((Kd.R_apart' HO493.out (Kd.R_typed HO470.out) (by decide))) hkp (fun k_ hk_ hs_ => Or.elim hs_ (fun e_ => ne_pick hk_ e_) (fun e_ => ne_pick hk_ e_))) (fun k_ hk_ => ⟨(pick hk_), (pick hk_), (pick hk_), (pick hk_), (pick hk_)⟩)); replace HO470 := Aside0.mk (Kd.R_reok rfl hy0 (fun k_ e_ => HO470.out.1 k_ e_)); replace HB := Aside0.mk (hb); (try clear hb); (try clear hkp); (try clear hy0); (try clear hy1)))
      (try simp only [Act.put, List.setIfInBounds_toArray, List.set_cons_zero, List.set_cons_succ])
      go_cut [63] (fun v63 wc => ∃ (kq : Nat) (x63_34 : Bool), v63 = .bool x63_34 ∧ Aside0 (laws_FnExactFirstTrouble.j0 kq t456 t475 x63_34 a0_0 l0_1 l0_2 a1_0 l1_1 l1_2 = some r) ∧ Aside0 (kq ≤ k) ∧ Aside0 (Kd.R (Kd.int .i64) 3 wc w.heap.size (fun k_ => some k_ ≠ ((.slice Ao70 t475.length co70) : Value).ownBlock) (.slice Ao71 t456.length co71) t456) ∧ Aside0 (Kd.R (Kd.int .i64) 3 wc w.heap.size (fun k_ => some k_ ≠ ((.slice Ao71 t456.length co71) : Value).ownBlock) (.slice Ao70 t475.length co70) t475) ∧ Aside0 (Kd.R Kd.bool 4 wc w.heap.size (fun k_ => some k_ ≠ ((.slice Ao66 t468.length co66) : Value).ownBlock) (.slice Ao57 t460.length co57) t496) ∧ Aside0 (Kd.R k64 64 wc w.heap.size (fun k_ => some k_ ≠ ((.slice Ao67 t471.length co67) : Value).ownBlock) (.slice Ao58 t463.length co58) t497) ∧ Aside0 (Kd.R Kd.bool 4 wc w.heap.size (fun k_ => some k_ ≠ ((.slice Ao57 t460.length co57) : Value).ownBlock) (.slice Ao66 t468.length co66) t499) ∧ Aside0 (Kd.R k64 64 wc w.heap.size (fun k_ => some k_ ≠ ((.slice Ao58 t463.length co58) : Value).ownBlock) (.slice Ao67 t471.length co67) t500) ∧ Aside0 (wc.heap[gb438]? = some (.cells #[.int .i64 a0_0, (.slice A0_1 l0_1.length c0_1), (.slice A0_2 l0_2.length c0_2)] 25 (0, 0))) ∧ Aside0 (wc.heap[gb439]? = some (.cells #[.int .i64 a1_0, (.slice A1_1 l1_1.length c1_1), (.slice A1_2 l1_2.length c1_2)] 25 (0, 0))) ∧ Aside0 (wc.heap[gb466]? = some (.cells #[.int .i64 t459, (.slice Ao57 t460.length co57), (.slice Ao58 t463.length co58)] 31 (0, 0))) ∧ Aside0 (wc.heap[gb474]? = some (.cells #[.int .i64 t467, (.slice Ao66 t468.length co66), (.slice Ao67 t471.length co67)] 31 (0, 0))) ∧ Aside0 (Below w.heap.size w wc))
      case first =>
       have H := HC35.out
       clear HC35
       by_cases c86 : t498 < 0
       ·rw [if_pos c86] at H
        have c86b0 : decide (t498 < 0) = true := decide_eq_true c86
        clear c86
        (first | rw [c86b0] | (simp only [i64_w, i32_w]; rw [c86b0]) | skip)
        have H' := Aside0.mk H
        clear H
        go_wp2
        go_meet
        case rel => exact ⟨_, (true), zF, H', ⟨by first | omega | exact Nat.le_refl _⟩, ⟨zR HO458⟩, ⟨zR HO477⟩, ⟨by (with_reducible repeat (first | apply Kd.R_alloc | apply Kd.R_drewN | apply Kd.R_drew)); exact Kd.R_mono HO462.out (fun _ hk => hk.2.2.1)⟩, ⟨by (with_reducible repeat (first | apply Kd.R_alloc | apply Kd.R_drewN | apply Kd.R_drew)); exact Kd.R_mono HO465.out (fun _ hk => hk.2.2.1)⟩, ⟨by (with_reducible repeat (first | apply Kd.R_alloc | apply Kd.R_drewN | apply Kd.R_drew)); exact Kd.R_mono HO470.out (fun _ hk => hk.2.2.1)⟩, ⟨by (with_reducible repeat (first | apply Kd.R_alloc | apply Kd.R_drewN | apply Kd.R_drew)); exact Kd.R_mono HO473.out (fun _ hk => hk.2.2.1)⟩, ⟨zK BK438⟩, ⟨zK BK439⟩, ⟨zK BK466⟩, ⟨zK BK474⟩, ⟨zB HB⟩⟩
       ·rw [if_neg c86] at H
        have c86b0 : decide (t498 < 0) = false := decide_eq_false c86
        clear c86
        (first | rw [c86b0] | (simp only [i64_w, i32_w]; rw [c86b0]) | skip)
        obtain ⟨t501, A87, H⟩ := bindS H
        have H' := Aside0.mk H
        clear H
        go_wp2_with (first | (go_at_call 22; (with_reducible refine (laws_eqIntS.calls k _ _ t475 _ _ t456 t501 _ ?side1 ?side2 ?side3 ?side4 A87.out).mono ?_); (case side1 => repeat (first | exact (Kd.R_reads' HO477.out).2.2 | (with_reducible refine Kd.C_alloc ?_ _) | (with_reducible refine Kd.C_drewN ?_ _) | (with_reducible refine Kd.C_drew ?_))); (case side2 => exact (Kd.R_reads' HO477.out).2.1); (case side3 => repeat (first | exact (Kd.R_reads' HO458.out).2.2 | (with_reducible refine Kd.C_alloc ?_ _) | (with_reducible refine Kd.C_drewN ?_ _) | (with_reducible refine Kd.C_drew ?_))); (case side4 => exact (Kd.R_reads' HO458.out).2.1); rintro e w' ⟨rfl, ⟨nd, rfl⟩⟩))
        go_meet
        case rel => exact ⟨_, (!t501), zF, H', ⟨by first | omega | exact Nat.le_refl _⟩, ⟨zR HO458⟩, ⟨zR HO477⟩, ⟨by (with_reducible repeat (first | apply Kd.R_alloc | apply Kd.R_drewN | apply Kd.R_drew)); exact Kd.R_mono HO462.out (fun _ hk => hk.2.2.1)⟩, ⟨by (with_reducible repeat (first | apply Kd.R_alloc | apply Kd.R_drewN | apply Kd.R_drew)); exact Kd.R_mono HO465.out (fun _ hk => hk.2.2.1)⟩, ⟨by (with_reducible repeat (first | apply Kd.R_alloc | apply Kd.R_drewN | apply Kd.R_drew)); exact Kd.R_mono HO470.out (fun _ hk => hk.2.2.1)⟩, ⟨by (with_reducible repeat (first | apply Kd.R_alloc | apply Kd.R_drewN | apply Kd.R_drew)); exact Kd.R_mono HO473.out (fun _ hk => hk.2.2.1)⟩, ⟨zK BK438⟩, ⟨zK BK439⟩, ⟨zK BK466⟩, ⟨zK BK474⟩, ⟨zB HB⟩⟩
      case rest =>
       clear HC35
       try clear c1
       try clear c2
       try clear p2
       try clear c5
       try clear c6
       try clear c8
       try clear c11
       try clear c14
       try clear c15
       try clear c20
       try clear c21
       try clear c22
       try clear c54
       try clear c55
       try clear c62
       try clear c63
       try clear c64
       try clear c86
       try clear c86b0
       try clear hcz51_0
       try clear hcz51_1
       try clear hcz51_2
       try clear hcz56_0
       try clear hcz56_1
       try clear hcz56_2
       try clear hcz59_0
       try clear hcz59_1
       try clear hcz59_2
       try clear hcz65_0
       try clear hcz65_1
       try clear hcz65_2
       try clear hcz68_0
       try clear hcz68_1
       try clear hcz68_2
       try clear hcz82_0
       try clear hcz82_1
       try clear hcz82_2
       try clear hcz84_0
       try clear hcz84_1
       try clear hcz84_2
       try clear hfz51_0
       try clear hfz51_1
       try clear hfz51_2
       try clear hfz56_0
       try clear hfz56_1
       try clear hfz56_2
       try clear hfz59_0
       try clear hfz59_1
       try clear hfz59_2
       try clear hfz65_0
       try clear hfz65_1
       try clear hfz65_2
       try clear hfz68_0
       try clear hfz68_1
       try clear hfz68_2
       try clear hfz82_0
       try clear hfz82_1
       try clear hfz82_2
       try clear hfz84_0
       try clear hfz84_1
       try clear hfz84_2
       obtain ⟨kq, x63_34, rfl, HA, HJ34, HO_6, HO_9, HO_467001, HO_467002, HO_475001, HO_475002, BK438, BK439, BK466, BK474, HB⟩ := hcut
       have hl467001_34 := (Kd.R_reads' HO_467001.out).1
       rw [hl467001_34] at HO_467001
       (try simp only [hl467001_34])
       (try simp only [hl467001_34] at BK438)
       (try simp only [hl467001_34] at BK439)
       (try simp only [hl467001_34] at BK466)
       (try simp only [hl467001_34] at BK474)
       (try simp only [hl467001_34] at HO_6)
       (try simp only [hl467001_34] at HO_9)
       (try simp only [hl467001_34] at HO_467002)
       (try simp only [hl467001_34] at HO_475001)
       (try simp only [hl467001_34] at HO_475002)
       have hl467002_34 := (Kd.R_reads' HO_467002.out).1
       rw [hl467002_34] at HO_467002
       (try simp only [hl467002_34])
       (try simp only [hl467002_34] at BK438)
       (try simp only [hl467002_34] at BK439)
       (try simp only [hl467002_34] at BK466)
       (try simp only [hl467002_34] at BK474)
       (try simp only [hl467002_34] at HO_6)
       (try simp only [hl467002_34] at HO_9)
       (try simp only [hl467002_34] at HO_467001)
       (try simp only [hl467002_34] at HO_475001)
       (try simp only [hl467002_34] at HO_475002)
       have hl475001_34 := (Kd.R_reads' HO_475001.out).1
       rw [hl475001_34] at HO_475001
       (try simp only [hl475001_34])
       (try simp only [hl475001_34] at BK438)
       (try simp only [hl475001_34] at BK439)
       (try simp only [hl475001_34] at BK466)
       (try simp only [hl475001_34] at BK474)
       (try simp only [hl475001_34] at HO_6)
       (try simp only [hl475001_34] at HO_9)
       (try simp only [hl475001_34] at HO_467001)
       (try simp only [hl475001_34] at HO_467002)
       (try simp only [hl475001_34] at HO_475002)
       have hl475002_34 := (Kd.R_reads' HO_475002.out).1
       rw [hl475002_34] at HO_475002
       (try simp only [hl475002_34])
       (try simp only [hl475002_34] at BK438)
       (try simp only [hl475002_34] at BK439)
       (try simp only [hl475002_34] at BK466)
       (try simp only [hl475002_34] at BK474)
       (try simp only [hl475002_34] at HO_6)
       (try simp only [hl475002_34] at HO_9)
       (try simp only [hl475002_34] at HO_467001)
       (try simp only [hl475002_34] at HO_467002)
       (try simp only [hl475002_34] at HO_475001)
       cases kq with
       | zero => exact absurd HA.out (by simp [laws_FnExactFirstTrouble.j0])
       | succ kj34 =>
        have H := HA.out
        clear HA
        simp only [laws_FnExactFirstTrouble.j0] at H
        by_cases c88 : x63_34 = true
        ·subst c88
         have H1 : (some false) = some r := by rw [if_pos rfl] at H; exact H
         clear H
         have H := H1
         clear H1
         exact absurd H (by simp [ht_])
        ·replace c88 := Bool.eq_false_iff.mpr c88
         subst c88
         have H1 : ((laws_markIntS.f kj34 t475 1).bind fun bt502 => ((laws_heldIntS.f kj34 bt502.2 1).bind fun t504 => (if t504 < 0 then (some false) else (if t504 = bt502.1 then ((laws_toMachine.f kj34 a0_0 l0_1 l0_2).bind fun bt505 => ((laws_toMachine.f kj34 a1_0 l1_1 l1_2).bind fun bt512 => ((impl_FirstTrouble.f kj34 bt505.1 bt505.2.1 bt505.2.2 bt512.1 bt512.2.1 bt512.2.2).bind fun t519 => ((laws_eqIntS.f kj34 t519 t456).bind fun t522 => (if t522 = true then ((laws_heldIntS.f kj34 bt502.2 1).bind fun t523 => (if t523 < 0 then (some false) else (if t523 = bt502.1 then (some true) else (some false)))) else (some false)))))) else (some false))))) = some r := by rw [if_neg (show ¬ (false = true) by decide)] at H; exact H
         clear H
         have H := H1
         clear H1
         replace H := Option.bind_eq_some_iff.mp H
         obtain ⟨⟨t502, t503⟩, A890, H⟩ := H
         replace H : ((laws_heldIntS.f kj34 t503 1).bind fun t504 => (if t504 < 0 then (some false) else (if t504 = t502 then ((laws_toMachine.f kj34 a0_0 l0_1 l0_2).bind fun bt505 => ((laws_toMachine.f kj34 a1_0 l1_1 l1_2).bind fun bt512 => ((impl_FirstTrouble.f kj34 bt505.1 bt505.2.1 bt505.2.2 bt512.1 bt512.2.1 bt512.2.2).bind fun t519 => ((laws_eqIntS.f kj34 t519 t456).bind fun t522 => (if t522 = true then ((laws_heldIntS.f kj34 t503 1).bind fun t523 => (if t523 < 0 then (some false) else (if t523 = t502 then (some true) else (some false)))) else (some false)))))) else (some false)))) = some r := H
         have A89 := Aside0.mk A890
         clear A890
         obtain ⟨t504, A90, H⟩ := bindS H
         by_cases c91 : t504 < 0
         ·rw [if_pos c91] at H
          have c91b0 : decide (t504 < 0) = true := decide_eq_true c91
          clear c91
          exact absurd H (by simp [ht_])
         ·rw [if_neg c91] at H
          have c91b0 : decide (t504 < 0) = false := decide_eq_false c91
          clear c91
          by_cases c92 : t504 = t502
          ·rw [if_pos c92] at H
           have c92b0 : (t504 == t502) = true := beq_iff_eq.mpr c92
           have c92b1 : (t504 != t502) = false := bne_eq_false_iff_eq.mpr c92
           clear c92
           replace H := Option.bind_eq_some_iff.mp H
           obtain ⟨⟨t505, t506, t509⟩, A930, H⟩ := H
           replace H : ((laws_toMachine.f kj34 a1_0 l1_1 l1_2).bind fun bt512 => ((impl_FirstTrouble.f kj34 t505 t506 t509 bt512.1 bt512.2.1 bt512.2.2).bind fun t519 => ((laws_eqIntS.f kj34 t519 t456).bind fun t522 => (if t522 = true then ((laws_heldIntS.f kj34 t503 1).bind fun t523 => (if t523 < 0 then (some false) else (if t523 = t502 then (some true) else (some false)))) else (some false))))) = some r := H
           have A93 := Aside0.mk A930
           clear A930
           replace H := Option.bind_eq_some_iff.mp H
           obtain ⟨⟨t512, t513, t516⟩, A940, H⟩ := H
           replace H : ((impl_FirstTrouble.f kj34 t505 t506 t509 t512 t513 t516).bind fun t519 => ((laws_eqIntS.f kj34 t519 t456).bind fun t522 => (if t522 = true then ((laws_heldIntS.f kj34 t503 1).bind fun t523 => (if t523 < 0 then (some false) else (if t523 = t502 then (some true) else (some false)))) else (some false)))) = some r := H
           have A94 := Aside0.mk A940
           clear A940
           obtain ⟨t519, A95, H⟩ := bindS H
           obtain ⟨t522, A96, H⟩ := bindS H
           by_cases c97 : t522 = true
           ·subst c97
            have H1 : ((laws_heldIntS.f kj34 t503 1).bind fun t523 => (if t523 < 0 then (some false) else (if t523 = t502 then (some true) else (some false)))) = some r := by rw [if_pos rfl] at H; exact H
            clear H
            have H := H1
            clear H1
            obtain ⟨t523, A98, H⟩ := bindS H
            by_cases c99 : t523 < 0
            ·rw [if_pos c99] at H
             have c99b0 : decide (t523 < 0) = true := decide_eq_true c99
             clear c99
             exact absurd H (by simp [ht_])
            ·rw [if_neg c99] at H
             have c99b0 : decide (t523 < 0) = false := decide_eq_false c99
             clear c99
             by_cases c100 : t523 = t502
             ·rw [if_pos c100] at H
              have c100b0 : (t523 == t502) = true := beq_iff_eq.mpr c100
              have c100b1 : (t523 != t502) = false := bne_eq_false_iff_eq.mpr c100
              clear c100
              obtain rfl := Option.some.inj H
              try go_wp2_with (first | ((with_reducible refine gate_callee (f := 23) rfl ?_); refine goesL_ (some 66) rfl rfl Try.func23 (by kernel_rfl) rfl #[.slice Ao70 t475.length co70, .int .i64 1] rfl zG ?_; (with_reducible refine (laws_markIntS.calls kj34 (fun k_ => some k_ = (.slice Ao70 t475.length co70 : Value).ownBlock) (.slice Ao70 t475.length co70) t475 1 t502 t503 w _ ?side1 ?side2 A89.out).mono ?_); (case side1 => repeat (first | (with_reducible first | exact HB.out | apply below_alloc | apply pw_below_drewN | apply below_drew1 | refine below_set ?_ GE438.out | refine below_set ?_ GE439.out | refine below_set ?_ GE466.out | refine below_set ?_ GE474.out) | exact HB.out)); (case side2 => exact Kd.R_tight rfl HO_9.out); rintro e w101 ⟨rfl, hy0, hb, hkp⟩; refine ⟨_, rfl, ?_⟩; replace HO_6 := Aside0.mk (Kd.R_mono (ok' := fun k_ => some k_ ≠ (.slice Ao70 t475.length co70 : Value).ownBlock) (Kd.R_keptB (HO_6.out) hkp (fun k_ hk_ hs_ => (hk_) hs_)) (fun k_ hk_ => (pick hk_))); replace HO_467001 := Aside0.mk (Kd.R_mono (ok' := fun k_ => some k_ ≠ (.slice Ao66 t499.length co66 : Value).ownBlock) (Kd.R_keptB ((Kd.R_apart' HO_467001.out (Kd.R_typed HO_9.out) (by decide))) hkp (fun k_ hk_ hs_ => ne_pick hk_ hs_)) (fun k_ hk_ => (pick hk_))); replace HO_467002 := Aside0.mk (Kd.R_mono (ok' := fun k_ => some k_ ≠ (.slice Ao67 t500.length co67 : Value).ownBlock) (Kd.R_keptB ((Kd.R_apart' HO_467002.out (Kd.R_typed HO_9.out) (by decide))) hkp (fun k_ hk_ hs_ => ne_pick hk_ hs_)) (fun k_ hk_ => (pick hk_))); replace HO_475001 := Aside0.mk (Kd.R_mono (ok' := fun k_ => some k_ ≠ (.slice Ao57 t496.length co57 : Value).ownBlock) (Kd.R_keptB ((Kd.R_apart' HO_475001.out (Kd.R_typed HO_9.out) (by decide))) hkp (fun k_ hk_ hs_ => ne_pick hk_ hs_)) (fun k_ hk_ => (pick hk_))); replace HO_475002 := Aside0.mk (Kd.R_mono (ok' := fun k_ => some k_ ≠ (.slice Ao58 t497.length co58 : Value).ownBlock) (Kd.R_keptB ((Kd.R_apart' HO_475002.out (Kd.R_typed HO_9.out) (by decide))) hkp (fun k_ hk_ hs_ => ne_pick hk_ hs_)) (fun k_ hk_ => (pick hk_))); replace BK438 := Aside0.mk (blk_kept (zK BK438) hkp (fun hs_ => (fun e_ => (Kd.R_ne HO_9.out BK438.out (by decide)) e_) hs_)); replace BK439 := Aside0.mk (blk_kept (zK BK439) hkp (fun hs_ => (fun e_ => (Kd.R_ne HO_9.out BK439.out (by decide)) e_) hs_)); replace BK466 := Aside0.mk (blk_kept (zK BK466) hkp (fun hs_ => (fun e_ => (Kd.R_ne HO_9.out BK466.out (by decide)) e_) hs_)); replace BK474 := Aside0.mk (blk_kept (zK BK474) hkp (fun hs_ => (fun e_ => (Kd.R_ne HO_9.out BK474.out (by decide)) e_) hs_)); replace HO_9 := Aside0.mk (Kd.R_reok rfl hy0 (fun k_ e_ => HO_9.out.1 k_ e_)); replace HB := Aside0.mk (hb); (try clear hb); (try clear hkp); (try clear hy0)) | ((with_reducible refine gate_callee (f := 24) rfl ?_); refine goesL_ (some 69) rfl rfl Try.func24 (by kernel_rfl) rfl #[.slice Ao70 t503.length co70, .int .i64 1] rfl (by (try simp only [List.map_toArray, List.map_cons, List.map_nil]); first | done | (rw [show t503.length = t475.length from (Kd.R_reads' HO_9.out).1.symm] <;> rfl) | rfl | (simp only [List.length_drop, List.length_take]; rfl)) ?_; (with_reducible refine (laws_heldIntS.calls kj34 _ _ t503 1 t504 _ ?side1 ?side2 A90.out).mono ?_); (case side1 => repeat (first | exact (Kd.R_reads' HO_9.out).2.2 | (with_reducible refine Kd.C_alloc ?_ _) | (with_reducible refine Kd.C_drewN ?_ _) | (with_reducible refine Kd.C_drew ?_))); (case side2 => rw [show t503.length = t475.length from (Kd.R_reads' HO_9.out).1.symm]; exact (Kd.R_reads' HO_9.out).2.1); rintro e w' ⟨rfl, ⟨nd, rfl⟩⟩; refine ⟨_, rfl, ?_⟩))
              (try (rw [drewN_self w101]; generalize hq_ : World.drewN w101 _ = w101; have n0_ : Aside0 (Kd.R Kd.bool 4 w101 w.heap.size (fun k_ => some k_ ≠ (.slice Ao66 t499.length co66 : Value).ownBlock) (.slice Ao57 t496.length co57) t496) := ⟨by rw [← hq_]; exact (zR HO_467001)⟩; have n1_ : Aside0 (Kd.R k64 64 w101 w.heap.size (fun k_ => some k_ ≠ (.slice Ao67 t500.length co67 : Value).ownBlock) (.slice Ao58 t497.length co58) t497) := ⟨by rw [← hq_]; exact (zR HO_467002)⟩; have n2_ : Aside0 (Kd.R Kd.bool 4 w101 w.heap.size (fun k_ => some k_ ≠ (.slice Ao57 t496.length co57 : Value).ownBlock) (.slice Ao66 t499.length co66) t499) := ⟨by rw [← hq_]; exact (zR HO_475001)⟩; have n3_ : Aside0 (Kd.R k64 64 w101 w.heap.size (fun k_ => some k_ ≠ (.slice Ao58 t497.length co58 : Value).ownBlock) (.slice Ao67 t500.length co67) t500) := ⟨by rw [← hq_]; exact (zR HO_475002)⟩; have n4_ : Aside0 (Kd.R (Kd.int .i64) 3 w101 w.heap.size (fun k_ => some k_ ≠ (.slice Ao70 t475.length co70 : Value).ownBlock) (.slice Ao71 t456.length co71) t456) := ⟨by rw [← hq_]; exact (zR HO_6)⟩; have n5_ : Aside0 (Kd.R (Kd.int .i64) 3 w101 w.heap.size (fun k_ => some k_ ≠ (.slice Ao71 t456.length co71 : Value).ownBlock) (.slice Ao70 t475.length co70) t503) := ⟨by rw [← hq_]; exact (zR HO_9)⟩; have n6_ : Aside0 (w101.heap[gb438]? = some (.cells #[.int .i64 a0_0, .slice A0_1 l0_1.length c0_1, .slice A0_2 l0_2.length c0_2] 25 (0, 0))) := ⟨by rw [← hq_]; exact (zK BK438)⟩; have n7_ : Aside0 (w101.heap[gb439]? = some (.cells #[.int .i64 a1_0, .slice A1_1 l1_1.length c1_1, .slice A1_2 l1_2.length c1_2] 25 (0, 0))) := ⟨by rw [← hq_]; exact (zK BK439)⟩; have n8_ : Aside0 (w101.heap[gb466]? = some (.cells #[.int .i64 t459, .slice Ao57 t496.length co57, .slice Ao58 t497.length co58] 31 (0, 0))) := ⟨by rw [← hq_]; exact (zK BK466)⟩; have n9_ : Aside0 (w101.heap[gb474]? = some (.cells #[.int .i64 t467, .slice Ao66 t499.length co66, .slice Ao67 t500.length co67] 31 (0, 0))) := ⟨by rw [← hq_]; exact (zK BK474)⟩; have n10_ : Aside0 (Below w.heap.size w w101) := ⟨by rw [← hq_]; exact (zB HB)⟩; clear HO_467001 HO_467002 HO_475001 HO_475002 HO_6 HO_9 BK438 BK439 BK466 BK474 HB hq_; have HO_467001 := n0_; have HO_467002 := n1_; have HO_475001 := n2_; have HO_475002 := n3_; have HO_6 := n4_; have HO_9 := n5_; have BK438 := n6_; have BK439 := n7_; have BK466 := n8_; have BK474 := n9_; have HB := n10_; clear n0_ n1_ n2_ n3_ n4_ n5_ n6_ n7_ n8_ n9_ n10_; have hcw438_0 : w101.cell? ⟨gb438, 0, none⟩ = some (.int .i64 a0_0) := bc0 BK438; have hfw438_0 := bf BK438 0; have hcw438_1 : w101.cell? ⟨gb438, 1, none⟩ = some (.slice A0_1 l0_1.length c0_1) := bc1 BK438; have hfw438_1 := bf BK438 1; have hcw438_2 : w101.cell? ⟨gb438, 2, none⟩ = some (.slice A0_2 l0_2.length c0_2) := bc2 BK438; have hfw438_2 := bf BK438 2; have hcw439_0 : w101.cell? ⟨gb439, 0, none⟩ = some (.int .i64 a1_0) := bc0 BK439; have hfw439_0 := bf BK439 0; have hcw439_1 : w101.cell? ⟨gb439, 1, none⟩ = some (.slice A1_1 l1_1.length c1_1) := bc1 BK439; have hfw439_1 := bf BK439 1; have hcw439_2 : w101.cell? ⟨gb439, 2, none⟩ = some (.slice A1_2 l1_2.length c1_2) := bc2 BK439; have hfw439_2 := bf BK439 2; have hcw466_0 : w101.cell? ⟨gb466, 0, none⟩ = some (.int .i64 t459) := bc0 BK466; have hfw466_0 := bf BK466 0; have hcw466_1 : w101.cell? ⟨gb466, 1, none⟩ = some (.slice Ao57 t496.length co57) := bc1 BK466; have hfw466_1 := bf BK466 1; have hcw466_2 : w101.cell? ⟨gb466, 2, none⟩ = some (.slice Ao58 t497.length co58) := bc2 BK466; have hfw466_2 := bf BK466 2; have hcw474_0 : w101.cell? ⟨gb474, 0, none⟩ = some (.int .i64 t467) := bc0 BK474; have hfw474_0 := bf BK474 0; have hcw474_1 : w101.cell? ⟨gb474, 1, none⟩ = some (.slice Ao66 t499.length co66) := bc1 BK474; have hfw474_1 := bf BK474 1; have hcw474_2 : w101.cell? ⟨gb474, 2, none⟩ = some (.slice Ao67 t500.length co67) := bc2 BK474; have hfw474_2 := bf BK474 2))
              replace HO_6 := Aside0.mk (Kd.R_drew HO_6.out)
              replace HO_9 := Aside0.mk (Kd.R_drew HO_9.out)
              replace HO_467001 := Aside0.mk (Kd.R_drew HO_467001.out)
              replace HO_467002 := Aside0.mk (Kd.R_drew HO_467002.out)
              replace HO_475001 := Aside0.mk (Kd.R_drew HO_475001.out)
              replace HO_475002 := Aside0.mk (Kd.R_drew HO_475002.out)
              replace BK438 := Aside0.mk (blk_drew BK438.out)
              replace BK439 := Aside0.mk (blk_drew BK439.out)
              replace BK466 := Aside0.mk (blk_drew BK466.out)
              replace BK474 := Aside0.mk (blk_drew BK474.out)
              replace HB := Aside0.mk (below_drew1 HB.out)
              refine start_ (n := 6) (S := fun w' => w'.cell? ⟨gb438, 0, none⟩ = some (.int .i64 a0_0) ∧ w'.cell? ⟨gb438, 1, none⟩ = some (.slice A0_1 l0_1.length c0_1) ∧ w'.cell? ⟨gb438, 2, none⟩ = some (.slice A0_2 l0_2.length c0_2) ∧ w'.cell? ⟨gb439, 0, none⟩ = some (.int .i64 a1_0) ∧ w'.cell? ⟨gb439, 1, none⟩ = some (.slice A1_1 l1_1.length c1_1) ∧ w'.cell? ⟨gb439, 2, none⟩ = some (.slice A1_2 l1_2.length c1_2)) (ds := []) (bm 6 0) (by kernel_rfl) rfl (bm0 _) ⟨bc0 BK438, bc1 BK438, bc2 BK438, bc0 BK439, bc1 BK439, bc2 BK439⟩ (fun hHeld => ?_)
              generalize w101.drew = w102 at HO_6 HO_9 HO_467001 HO_467002 HO_475001 HO_475002 BK438 BK439 BK466 BK474 HB hHeld ⊢
              refine take_ (i := 0) (N := some 75) (v := ?_) (a' := ?_) (bm 6 1) rfl rfl (by kernel_rfl) (fun _ _ _ h => h) (Or.inl ⟨by rfl, ?_⟩) hHeld ?_ ?_
              rotate_left
              ·rintro w' ⟨s0, s1, s2, s3, s4, s5⟩
               go_simp
               with_reducible rfl
              rotate_left
              ·simp only [Act.put, List.setIfInBounds_toArray, List.set_cons_zero, List.set_cons_succ, i64_w, i32_w]
               rfl
              refine take_ (i := 2) (N := some 77) (v := ?_) (a' := ?_) (bm 6 5) rfl rfl (by kernel_rfl) (fun _ _ _ h => h) (Or.inl ⟨by rfl, ?_⟩) hHeld ?_ ?_
              rotate_left
              ·rintro w' ⟨s0, s1, s2, s3, s4, s5⟩
               go_simp
               with_reducible rfl
              rotate_left
              ·simp only [Act.put, List.setIfInBounds_toArray, List.set_cons_zero, List.set_cons_succ, i64_w, i32_w]
               rfl
              refine one_ (i := 1) (N := some 76) (bm 6 7) rfl rfl (by kernel_rfl) (by decide) (fun K hK => ?_)
              refine goes_ Try.func11 (by kernel_rfl) rfl #[.agg #[.int .i64 a0_0, .slice A0_1 l0_1.length c0_1, .slice A0_2 l0_2.length c0_2]] (by rfl) rfl rfl zG ?_
              with_reducible refine (laws_toMachine.calls kj34 a0_0 _ _ l0_1 _ _ l0_2 t505 t506 t509 _ ?side1 ?side2 ?side3 ?side4 A93.out).mono ?_
              (case side1 => exact cS HR0_1 HB)
              (case side2 => exact HC0_1.out)
              (case side3 => exact cS HR0_2 HB)
              (case side4 => exact HC0_2.out)
              rintro e w103 ⟨v507, v510, rfl, ho0, ho1, hb⟩
              refine ⟨_, rfl, ?_⟩
              replace HO_6 := Aside0.mk (Kd.R_below (zR HO_6) hb)
              replace HO_9 := Aside0.mk (Kd.R_below (zR HO_9) hb)
              have HO508 := Aside0.mk (Kd.R_lower (Kd.R_new' (Kd.R_new' ho0 (Kd.R_lt (zR HO_467001))) (Kd.R_lt (zR HO_475001))) (below_size (zB HB)))
              replace HO_467001 := Aside0.mk (Kd.R_elder' (zR HO_467001) (Kd.R_base ho0) hb)
              replace HO_475001 := Aside0.mk (Kd.R_elder' (zR HO_475001) (Kd.R_base ho0) hb)
              have HO511 := Aside0.mk (Kd.R_lower (Kd.R_new' (Kd.R_new' ho1 (Kd.R_lt (zR HO_467002))) (Kd.R_lt (zR HO_475002))) (below_size (zB HB)))
              replace HO_467002 := Aside0.mk (Kd.R_elder' (zR HO_467002) (Kd.R_base ho1) hb)
              replace HO_475002 := Aside0.mk (Kd.R_elder' (zR HO_475002) (Kd.R_base ho1) hb)
              replace BK438 := kB BK438 hb
              replace BK439 := kB BK439 hb
              replace BK466 := kB BK466 hb
              replace BK474 := kB BK474 hb
              replace HB := bS HB hb
              (try clear hb)
              (try clear hb2)
              (try clear hk)
              (try clear hi)
              (try clear ho0)
              (try clear ho1)
              refine hK.out _ _ ⟨bc0 BK438, bc1 BK438, bc2 BK438, bc0 BK439, bc1 BK439, bc2 BK439⟩ (fun hHeld => ?_)
              clear hK K
              refine norm_ (a' := ?_) ?_ ?_
              rotate_left
              ·show Act.put _ (some 76) _ = _
               simp only [Act.put, List.setIfInBounds_toArray, List.set_cons_zero, List.set_cons_succ, i64_w, i32_w]
               rfl
              refine one_ (i := 3) (N := some 78) (bm 6 15) rfl rfl (by kernel_rfl) (by decide) (fun K hK => ?_)
              refine goes_ Try.func11 (by kernel_rfl) rfl #[.agg #[.int .i64 a1_0, .slice A1_1 l1_1.length c1_1, .slice A1_2 l1_2.length c1_2]] (by rfl) rfl rfl zG ?_
              with_reducible refine (laws_toMachine.calls kj34 a1_0 _ _ l1_1 _ _ l1_2 t512 t513 t516 _ ?side1 ?side2 ?side3 ?side4 A94.out).mono ?_
              (case side1 => exact cS HR1_1 HB)
              (case side2 => exact HC1_1.out)
              (case side3 => exact cS HR1_2 HB)
              (case side4 => exact HC1_2.out)
              rintro e w104 ⟨v514, v517, rfl, ho0, ho1, hb⟩
              refine ⟨_, rfl, ?_⟩
              replace HO_6 := Aside0.mk (Kd.R_below (zR HO_6) hb)
              replace HO_9 := Aside0.mk (Kd.R_below (zR HO_9) hb)
              have HO515 := Aside0.mk (Kd.R_lower (Kd.R_new' (Kd.R_new' (Kd.R_new' ho0 (Kd.R_lt (zR HO_467001))) (Kd.R_lt (zR HO_475001))) (Kd.R_lt (zR HO508))) (below_size (zB HB)))
              replace HO_467001 := Aside0.mk (Kd.R_elder' (zR HO_467001) (Kd.R_base ho0) hb)
              replace HO_475001 := Aside0.mk (Kd.R_elder' (zR HO_475001) (Kd.R_base ho0) hb)
              replace HO508 := Aside0.mk (Kd.R_elder' (zR HO508) (Kd.R_base ho0) hb)
              have HO518 := Aside0.mk (Kd.R_lower (Kd.R_new' (Kd.R_new' (Kd.R_new' ho1 (Kd.R_lt (zR HO_467002))) (Kd.R_lt (zR HO_475002))) (Kd.R_lt (zR HO511))) (below_size (zB HB)))
              replace HO_467002 := Aside0.mk (Kd.R_elder' (zR HO_467002) (Kd.R_base ho1) hb)
              replace HO_475002 := Aside0.mk (Kd.R_elder' (zR HO_475002) (Kd.R_base ho1) hb)
              replace HO511 := Aside0.mk (Kd.R_elder' (zR HO511) (Kd.R_base ho1) hb)
              replace BK438 := kB BK438 hb
              replace BK439 := kB BK439 hb
              replace BK466 := kB BK466 hb
              replace BK474 := kB BK474 hb
              replace HB := bS HB hb
              (try clear hb)
              (try clear hb2)
              (try clear hk)
              (try clear hi)
              (try clear ho0)
              (try clear ho1)
              obtain ⟨Ao105, co105, eo105⟩ := Kd.R_slice HO508.out
              (first | subst eo105 | (injection eo105 with f1_ f2_ f3_; have f4_ := f1_.symm; have f5_ := f3_.symm; clear f1_ f2_ f3_; subst f4_; subst f5_))
              obtain ⟨Ao106, co106, eo106⟩ := Kd.R_slice HO511.out
              (first | subst eo106 | (injection eo106 with f1_ f2_ f3_; have f4_ := f1_.symm; have f5_ := f3_.symm; clear f1_ f2_ f3_; subst f4_; subst f5_))
              obtain ⟨Ao107, co107, eo107⟩ := Kd.R_slice HO515.out
              (first | subst eo107 | (injection eo107 with f1_ f2_ f3_; have f4_ := f1_.symm; have f5_ := f3_.symm; clear f1_ f2_ f3_; subst f4_; subst f5_))
              obtain ⟨Ao108, co108, eo108⟩ := Kd.R_slice HO518.out
              (first | subst eo108 | (injection eo108 with f1_ f2_ f3_; have f4_ := f1_.symm; have f5_ := f3_.symm; clear f1_ f2_ f3_; subst f4_; subst f5_))
              refine hK.out _ _ ⟨bc0 BK438, bc1 BK438, bc2 BK438, bc0 BK439, bc1 BK439, bc2 BK439⟩ (fun hHeld => ?_)
              clear hK K
              refine norm_ (a' := ?_) ?_ ?_
              rotate_left
              ·show Act.put _ (some 78) _ = _
               simp only [Act.put, List.setIfInBounds_toArray, List.set_cons_zero, List.set_cons_succ, i64_w, i32_w]
               rfl
              refine one_ (i := 4) (N := some 79) (bm 6 31) rfl rfl (by kernel_rfl) (by decide) (fun K hK => ?_)
              refine goes_ Try.func21 (by kernel_rfl) rfl #[.agg #[.int .i64 t505, .slice Ao105 t506.length co105, .slice Ao106 t509.length co106], .agg #[.int .i64 t512, .slice Ao107 t513.length co107, .slice Ao108 t516.length co108]] (by rfl) rfl rfl zG ?_
              with_reducible refine (impl_FirstTrouble.calls kj34 t505 _ _ t506 _ _ t509 t512 _ _ t513 _ _ t516 t519 _ ?side1 ?side2 ?side3 ?side4 ?side5 ?side6 ?side7 ?side8 A95.out).mono ?_
              (case side1 => repeat (first | exact (Kd.R_reads' HO508.out).2.2 | (with_reducible refine Kd.C_alloc ?_ _) | (with_reducible refine Kd.C_drewN ?_ _) | (with_reducible refine Kd.C_drew ?_)))
              (case side2 => exact (Kd.R_reads' HO508.out).2.1)
              (case side3 => repeat (first | exact (Kd.R_reads' HO511.out).2.2 | (with_reducible refine Kd.C_alloc ?_ _) | (with_reducible refine Kd.C_drewN ?_ _) | (with_reducible refine Kd.C_drew ?_)))
              (case side4 => exact (Kd.R_reads' HO511.out).2.1)
              (case side5 => repeat (first | exact (Kd.R_reads' HO515.out).2.2 | (with_reducible refine Kd.C_alloc ?_ _) | (with_reducible refine Kd.C_drewN ?_ _) | (with_reducible refine Kd.C_drew ?_)))
              (case side6 => exact (Kd.R_reads' HO515.out).2.1)
              (case side7 => repeat (first | exact (Kd.R_reads' HO518.out).2.2 | (with_reducible refine Kd.C_alloc ?_ _) | (with_reducible refine Kd.C_drewN ?_ _) | (with_reducible refine Kd.C_drew ?_)))
              (case side8 => exact (Kd.R_reads' HO518.out).2.1)
              rintro e w109 ⟨v520, rfl, ho0, hb⟩
              refine ⟨_, rfl, ?_⟩
              replace HO_467001 := Aside0.mk (Kd.R_below (zR HO_467001) hb)
              replace HO_467002 := Aside0.mk (Kd.R_below (zR HO_467002) hb)
              replace HO_475001 := Aside0.mk (Kd.R_below (zR HO_475001) hb)
              replace HO_475002 := Aside0.mk (Kd.R_below (zR HO_475002) hb)
              replace HO508 := Aside0.mk (Kd.R_below (zR HO508) hb)
              replace HO511 := Aside0.mk (Kd.R_below (zR HO511) hb)
              replace HO515 := Aside0.mk (Kd.R_below (zR HO515) hb)
              replace HO518 := Aside0.mk (Kd.R_below (zR HO518) hb)
              have HO521 := Aside0.mk (Kd.R_lower (Kd.R_new' (Kd.R_new' ho0 (Kd.R_lt (zR HO_6))) (Kd.R_lt (zR HO_9))) (below_size (zB HB)))
              replace HO_6 := Aside0.mk (Kd.R_elder' (zR HO_6) (Kd.R_base ho0) hb)
              replace HO_9 := Aside0.mk (Kd.R_elder' (zR HO_9) (Kd.R_base ho0) hb)
              replace BK438 := kB BK438 hb
              replace BK439 := kB BK439 hb
              replace BK466 := kB BK466 hb
              replace BK474 := kB BK474 hb
              replace HB := bS HB hb
              (try clear hb)
              (try clear hb2)
              (try clear hk)
              (try clear hi)
              (try clear ho0)
              refine hK.out _ _ ⟨bc0 BK438, bc1 BK438, bc2 BK438, bc0 BK439, bc1 BK439, bc2 BK439⟩ (fun hHeld => ?_)
              clear hK K
              refine norm_ (a' := ?_) ?_ ?_
              rotate_left
              ·show Act.put _ (some 79) _ = _
               simp only [Act.put, List.setIfInBounds_toArray, List.set_cons_zero, List.set_cons_succ, i64_w, i32_w]
               rfl
              refine pure_ (i := 5) (N := some 13) (v := ?_) (a' := ?_) (bm 6 63) rfl rfl (by kernel_rfl) (fun _ _ _ h => h) (Or.inl ⟨by rfl, ?_⟩) ?_ ?_
              rotate_left
              ·intro w'
               go_simp
               with_reducible rfl
              rotate_left
              ·simp only [Act.put, List.setIfInBounds_toArray, List.set_cons_zero, List.set_cons_succ, i64_w, i32_w]
               rfl
              refine done_ (by kernel_rfl) ?_
              try clear hHeld
              obtain ⟨Ao110, co110, eo110⟩ := Kd.R_slice HO521.out
              subst eo110
              try go_wp2_with (first | ((with_reducible refine gate_callee (f := 22) rfl ?_); refine goesL_ (some 82) rfl rfl Try.func22 (by kernel_rfl) rfl #[.slice Ao110 t519.length co110, .slice Ao71 t456.length co71] rfl zG ?_; (with_reducible refine (laws_eqIntS.calls kj34 _ _ t519 _ _ t456 true _ ?side1 ?side2 ?side3 ?side4 A96.out).mono ?_); (case side1 => repeat (first | exact (Kd.R_reads' HO521.out).2.2 | (with_reducible refine Kd.C_alloc ?_ _) | (with_reducible refine Kd.C_drewN ?_ _) | (with_reducible refine Kd.C_drew ?_))); (case side2 => exact (Kd.R_reads' HO521.out).2.1); (case side3 => repeat (first | exact (Kd.R_reads' HO_6.out).2.2 | (with_reducible refine Kd.C_alloc ?_ _) | (with_reducible refine Kd.C_drewN ?_ _) | (with_reducible refine Kd.C_drew ?_))); (case side4 => exact (Kd.R_reads' HO_6.out).2.1); rintro e w' ⟨rfl, ⟨nd, rfl⟩⟩; refine ⟨_, rfl, ?_⟩) | ((with_reducible refine gate_callee (f := 24) rfl ?_); refine goesL_ (some 86) rfl rfl Try.func24 (by kernel_rfl) rfl #[.slice Ao70 t503.length co70, .int .i64 1] rfl (by (try simp only [List.map_toArray, List.map_cons, List.map_nil]); first | done | (rw [show t503.length = t475.length from (Kd.R_reads' HO_9.out).1.symm] <;> rfl) | rfl | (simp only [List.length_drop, List.length_take]; rfl)) ?_; (with_reducible refine (laws_heldIntS.calls kj34 _ _ t503 1 t523 _ ?side1 ?side2 A98.out).mono ?_); (case side1 => repeat (first | exact (Kd.R_reads' HO_9.out).2.2 | (with_reducible refine Kd.C_alloc ?_ _) | (with_reducible refine Kd.C_drewN ?_ _) | (with_reducible refine Kd.C_drew ?_))); (case side2 => rw [show t503.length = t475.length from (Kd.R_reads' HO_9.out).1.symm]; exact (Kd.R_reads' HO_9.out).2.1); rintro e w' ⟨rfl, ⟨nd, rfl⟩⟩; refine ⟨_, rfl, ?_⟩))
              go_ret
              exact ⟨zE, zB HB⟩
             ·rw [if_neg c100] at H
              have c100b0 : (t523 == t502) = false := beq_eq_false_iff_ne.mpr c100
              have c100b1 : (t523 != t502) = true := bne_iff_ne.mpr c100
              exact absurd H (by simp [ht_])
           ·replace c97 := Bool.eq_false_iff.mpr c97
            subst c97
            have H1 : (some false) = some r := by rw [if_neg (show ¬ (false = true) by decide)] at H; exact H
            clear H
            have H := H1
            clear H1
            exact absurd H (by simp [ht_])
          ·rw [if_neg c92] at H
           have c92b0 : (t504 == t502) = false := beq_eq_false_iff_ne.mpr c92
           have c92b1 : (t504 != t502) = true := bne_iff_ne.mpr c92
           exact absurd H (by simp [ht_])
     ·replace c32 := Bool.eq_false_iff.mpr c32
      subst c32
      have H1 : (some false) = some r := by rw [if_neg (show ¬ (false = true) by decide)] at H; exact H
      clear H
      have H := H1
      clear H1
      exact absurd H (by simp [ht_])
    ·replace c29 := Bool.eq_false_iff.mpr c29
     subst c29
     have H1 : (some false) = some r := by rw [if_neg (show ¬ (false = true) by decide)] at H; exact H
     clear H
     have H := H1
     clear H1
     exact absurd H (by simp [ht_])
   ·replace c26 := Bool.eq_false_iff.mpr c26
    subst c26
    have H1 : (some false) = some r := by rw [if_neg (show ¬ (false = true) by decide)] at H; exact H
    clear H
    have H := H1
    clear H1
    exact absurd H (by simp [ht_])
/-- What is known of a value of type 69 that came in. -/
def W69 (x : S69) : Prop := (Lit.int .i64 x.f0).wf = true ∧ True ∧ (Lit.int .i64 x.f2).wf = true ∧ (Lit.int .i64 x.f3).wf = true

/-- The pure statement of laws_FnExactFirstTrouble. -/
def laws_FnExactFirstTrouble.Pure : Prop := ∀ (a0_0 : Int) (l0_1 : List Bool) (l0_2 : List (S69)) (a1_0 : Int) (l1_1 : List Bool) (l1_2 : List (S69)), (Lit.int .i64 a0_0).wf = true → l0_1.length ≤ 9223372036854775807 → (∀ x ∈ l0_1, True) → l0_2.length ≤ 9223372036854775807 → (∀ x ∈ l0_2, W69 x) → (Lit.int .i64 a1_0).wf = true → l1_1.length ≤ 9223372036854775807 → (∀ x ∈ l1_1, True) → l1_2.length ≤ 9223372036854775807 → (∀ x ∈ l1_2, W69 x) → ∃ k, laws_FnExactFirstTrouble.f k a0_0 l0_1 l0_2 a1_0 l1_1 l1_2 = some true

end Go.Proofs.Ytmenijbpglknbaa.PFnExactFirstTrouble
