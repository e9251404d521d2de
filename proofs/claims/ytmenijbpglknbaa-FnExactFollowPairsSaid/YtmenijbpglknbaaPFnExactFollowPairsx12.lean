-- WRITTEN by pp.py, this session's own wrapper around the print; not trusted: Lean checks it
import Derived.Test.YtmenijbpglknbaaPFnExactFollowPairsx0
import Derived.Test.YtmenijbpglknbaaPFnExactFollowPairsx1
import Derived.Test.YtmenijbpglknbaaPFnExactFollowPairsx2
import Derived.Test.YtmenijbpglknbaaPFnExactFollowPairsx3
import Derived.Test.YtmenijbpglknbaaPFnExactFollowPairsx7
import Derived.Test.YtmenijbpglknbaaPFnExactFollowPairsx11
namespace Go.Proofs.Ytmenijbpglknbaa.PFnExactFollowPairs
open Go.RowKit Go.Proofs.Ytmenijbpglknbaa.Hw Go.Proofs.YtmenijbpglknbaaW.PrintWords Go.Proofs.YtmenijbpglknbaaW.PrintLast Go.Proofs.YtmenijbpglknbaaW.PrintMore
attribute [local go_sem] max2_int min2_int max_two min_two max_three min_three max_four min_four   -- for this text's walks alone
set_option linter.unusedVariables false
set_option linter.unusedSimpArgs false
set_option linter.unusedSectionVars false

/-! ### laws_FnExactFollowPairs: function 4 -/
def laws_FnExactFollowPairs.j0 : Nat → List (List Int) → List (List Int) → Bool → Int → List Bool → List (S69) → Int → List Bool → List (S69) → Option (Bool)
 | 0, _, _, _, _, _, _, _, _, _ => none
 | k + 1, x6, x9, x63, x333000, x333001, x333002, x334000, x334001, x334002 => if x63 = true then (some false) else ((laws_markIntSS.f k x9 1).bind fun bt396 => ((laws_heldIntSS.f k bt396.2 1).bind fun t398 => (if t398 < 0 then (some false) else (if t398 = bt396.1 then ((laws_toMachine.f k x333000 x333001 x333002).bind fun bt399 => ((laws_toMachine.f k x334000 x334001 x334002).bind fun bt406 => ((impl_FollowPairs.f k bt399.1 bt399.2.1 bt399.2.2 bt406.1 bt406.2.1 bt406.2.2).bind fun t413 => ((laws_eqIntSS.f k t413 x6).bind fun t416 => (if t416 = true then ((laws_heldIntSS.f k bt396.2 1).bind fun t417 => (if t417 < 0 then (some false) else (if t417 = bt396.1 then (some true) else (some false)))) else (some false)))))) else (some false)))))
def laws_FnExactFollowPairs.f (k : Nat) (a0_0 : Int) (l0_1 : List Bool) (l0_2 : List (S69)) (a1_0 : Int) (l1_1 : List Bool) (l1_2 : List (S69)) : Option (Bool) := (laws_szMachine.f a0_0 l0_1 l0_2 1048576).bind fun t334 => (if t334 < 0 then (some true) else ((laws_szMachine.f a1_0 l1_1 l1_2 t334).bind fun t335 => (if t335 < 0 then (some true) else ((laws_toMachine.f k a0_0 l0_1 l0_2).bind fun bt336 => ((laws_toMachine.f k a1_0 l1_1 l1_2).bind fun bt343 => ((spec_FollowPairs.f k bt336.1 bt336.2.1 bt336.2.2 bt343.1 bt343.2.1 bt343.2.2).bind fun t350 => ((laws_toMachine.f k a0_0 l0_1 l0_2).bind fun bt353 => ((laws_toMachine.f k a1_0 l1_1 l1_2).bind fun bt361 => ((impl_FollowPairs.f k bt353.1 bt353.2.1 bt353.2.2 bt361.1 bt361.2.1 bt361.2.2).bind fun t369 => ((laws_eqIntSS.f k t369 t350).bind fun t372 => (if t372 = true then ((laws_toMachine.f k a0_0 l0_1 l0_2).bind fun bt373 => ((laws_eqMachine.f k bt353.1 bt353.2.1 bt353.2.2 bt373.1 bt373.2.1 bt373.2.2).bind fun t380 => (if t380 = true then ((laws_toMachine.f k a1_0 l1_1 l1_2).bind fun bt381 => ((laws_eqMachine.f k bt361.1 bt361.2.1 bt361.2.2 bt381.1 bt381.2.1 bt381.2.2).bind fun t388 => (if t388 = true then ((laws_markMachine.f k bt353.1 bt353.2.1 bt353.2.2 1).bind fun bt389 => ((laws_markMachine.f k bt361.1 bt361.2.1 bt361.2.2 bt389.1).bind fun bt392 => (if bt392.1 < 0 then (laws_FnExactFollowPairs.j0 k t350 t369 true a0_0 l0_1 l0_2 a1_0 l1_1 l1_2) else ((laws_eqIntSS.f k t369 t350).bind fun t395 => (laws_FnExactFollowPairs.j0 k t350 t369 (!t395) a0_0 l0_1 l0_2 a1_0 l1_1 l1_2))))) else (some false)))) else (some false)))) else (some false))))))))))))
theorem laws_FnExactFollowPairs.mono_l : ∀ k, (∀ y0 y1 y2 y3 y4 y5 y6 y7 y8, LeO (laws_FnExactFollowPairs.j0 k y0 y1 y2 y3 y4 y5 y6 y7 y8) (laws_FnExactFollowPairs.j0 (k + 1) y0 y1 y2 y3 y4 y5 y6 y7 y8))
 | 0 => fun _ _ _ _ _ _ _ _ _ r h => by simp [laws_FnExactFollowPairs.j0] at h
 | k + 1 => by
  have ih0 := laws_FnExactFollowPairs.mono_l k
  ·intro y0 y1 y2 y3 y4 y5 y6 y7 y8
   unfold laws_FnExactFollowPairs.j0
   repeat' first
   | (with_reducible exact ih0 _ _ _ _ _ _ _ _ _)
   | (with_reducible exact impl_FollowPairs.mono _ _ _ _ _ _ _)
   | (with_reducible exact laws_eqIntSS.mono _ _ _)
   | (with_reducible exact laws_eqMachine.mono _ _ _ _ _ _ _)
   | (with_reducible exact laws_heldIntSS.mono _ _ _)
   | (with_reducible exact laws_markIntSS.mono _ _ _)
   | (with_reducible exact laws_markMachine.mono _ _ _ _ _)
   | (with_reducible exact laws_toMachine.mono _ _ _ _)
   | (with_reducible exact spec_FollowPairs.mono _ _ _ _ _ _ _)
   | (with_reducible exact LeO.refl _)
   | (with_reducible exact LeO.none _)
   | (with_reducible refine LeO.ite ?_ ?_)
   | (with_reducible refine LeO.bind ?_ (fun _ => ?_))
   | exact ih0 _ _ _ _ _ _ _ _ _
   | exact impl_FollowPairs.mono _ _ _ _ _ _ _
   | exact laws_eqIntSS.mono _ _ _
   | exact laws_eqMachine.mono _ _ _ _ _ _ _
   | exact laws_heldIntSS.mono _ _ _
   | exact laws_markIntSS.mono _ _ _
   | exact laws_markMachine.mono _ _ _ _ _
   | exact laws_toMachine.mono _ _ _ _
   | exact spec_FollowPairs.mono _ _ _ _ _ _ _
   | exact LeO.none _
   | refine LeO.ite ?_ ?_
   | refine LeO.bind ?_ (fun _ => ?_)
theorem laws_FnExactFollowPairs.mono : ∀ a0 a1 a2 a3 a4 a5 k, LeO (laws_FnExactFollowPairs.f k a0 a1 a2 a3 a4 a5) (laws_FnExactFollowPairs.f (k + 1) a0 a1 a2 a3 a4 a5) := by
 intro a0 a1 a2 a3 a4 a5 k
 have ih0 := laws_FnExactFollowPairs.mono_l k
 unfold laws_FnExactFollowPairs.f
 repeat' first
   | (with_reducible exact ih0 _ _ _ _ _ _ _ _ _)
   | (with_reducible exact impl_FollowPairs.mono _ _ _ _ _ _ _)
   | (with_reducible exact laws_eqIntSS.mono _ _ _)
   | (with_reducible exact laws_eqMachine.mono _ _ _ _ _ _ _)
   | (with_reducible exact laws_heldIntSS.mono _ _ _)
   | (with_reducible exact laws_markIntSS.mono _ _ _)
   | (with_reducible exact laws_markMachine.mono _ _ _ _ _)
   | (with_reducible exact laws_toMachine.mono _ _ _ _)
   | (with_reducible exact spec_FollowPairs.mono _ _ _ _ _ _ _)
   | (with_reducible exact LeO.refl _)
   | (with_reducible exact LeO.none _)
   | (with_reducible refine LeO.ite ?_ ?_)
   | (with_reducible refine LeO.bind ?_ (fun _ => ?_))
   | exact ih0 _ _ _ _ _ _ _ _ _
   | exact impl_FollowPairs.mono _ _ _ _ _ _ _
   | exact laws_eqIntSS.mono _ _ _
   | exact laws_eqMachine.mono _ _ _ _ _ _ _
   | exact laws_heldIntSS.mono _ _ _
   | exact laws_markIntSS.mono _ _ _
   | exact laws_markMachine.mono _ _ _ _ _
   | exact laws_toMachine.mono _ _ _ _
   | exact spec_FollowPairs.mono _ _ _ _ _ _ _
   | exact LeO.none _
   | refine LeO.ite ?_ ?_
   | refine LeO.bind ?_ (fun _ => ?_)
set_option maxHeartbeats 8000000 in
set_option maxRecDepth 100000 in
theorem laws_FnExactFollowPairs.calls (k : Nat) (a0_0 : Int) (A0_1 : Option Addr) (c0_1 : Nat) (l0_1 : List Bool) (A0_2 : Option Addr) (c0_2 : Nat) (l0_2 : List (S69)) (a1_0 : Int) (A1_1 : Option Addr) (c1_1 : Nat) (l1_1 : List Bool) (A1_2 : Option Addr) (c1_2 : Nat) (l1_2 : List (S69)) (r : Bool) (w : World) (hr0_1 : Kd.C Kd.bool w A0_1 l0_1.length l0_1) (hc0_1 : l0_1.length ≤ c0_1) (hr0_2 : Kd.C k69 w A0_2 l0_2.length l0_2) (hc0_2 : l0_2.length ≤ c0_2) (hr1_1 : Kd.C Kd.bool w A1_1 l1_1.length l1_1) (hc1_1 : l1_1.length ≤ c1_1) (hr1_2 : Kd.C k69 w A1_2 l1_2.length l1_2) (hc1_2 : l1_2.length ≤ c1_2) (ht_ : r = true) (h : laws_FnExactFollowPairs.f k a0_0 l0_1 l0_2 a1_0 l1_1 l1_2 = some r) :
  Calls Try.prog 4 #[.agg #[.int .i64 a0_0, .slice A0_1 l0_1.length c0_1, .slice A0_2 l0_2.length c0_2], .agg #[.int .i64 a1_0, .slice A1_1 l1_1.length c1_1, .slice A1_2 l1_2.length c1_2]] w fun e w' => e = .returned (.bool r) ∧ Below w.heap.size w w' := by
 have hu25 := Try.underlying25
 have hu31 := Try.underlying31
 have HR0_1 := Aside0.mk hr0_1
 have HC0_1 := Aside0.mk hc0_1
 clear hr0_1 hc0_1
 have HR0_2 := Aside0.mk hr0_2
 have HC0_2 := Aside0.mk hc0_2
 clear hr0_2 hc0_2
 have HR1_1 := Aside0.mk hr1_1
 have HC1_1 := Aside0.mk hc1_1
 clear hr1_1 hc1_1
 have HR1_2 := Aside0.mk hr1_2
 have HC1_2 := Aside0.mk hc1_2
 clear hr1_2 hc1_2
 have HB := Aside0.mk (Below.refl w.heap.size w)
 have H : ((laws_szMachine.f a0_0 l0_1 l0_2 1048576).bind fun t334 => (if t334 < 0 then (some true) else ((laws_szMachine.f a1_0 l1_1 l1_2 t334).bind fun t335 => (if t335 < 0 then (some true) else ((laws_toMachine.f k a0_0 l0_1 l0_2).bind fun bt336 => ((laws_toMachine.f k a1_0 l1_1 l1_2).bind fun bt343 => ((spec_FollowPairs.f k bt336.1 bt336.2.1 bt336.2.2 bt343.1 bt343.2.1 bt343.2.2).bind fun t350 => ((laws_toMachine.f k a0_0 l0_1 l0_2).bind fun bt353 => ((laws_toMachine.f k a1_0 l1_1 l1_2).bind fun bt361 => ((impl_FollowPairs.f k bt353.1 bt353.2.1 bt353.2.2 bt361.1 bt361.2.1 bt361.2.2).bind fun t369 => ((laws_eqIntSS.f k t369 t350).bind fun t372 => (if t372 = true then ((laws_toMachine.f k a0_0 l0_1 l0_2).bind fun bt373 => ((laws_eqMachine.f k bt353.1 bt353.2.1 bt353.2.2 bt373.1 bt373.2.1 bt373.2.2).bind fun t380 => (if t380 = true then ((laws_toMachine.f k a1_0 l1_1 l1_2).bind fun bt381 => ((laws_eqMachine.f k bt361.1 bt361.2.1 bt361.2.2 bt381.1 bt381.2.1 bt381.2.2).bind fun t388 => (if t388 = true then ((laws_markMachine.f k bt353.1 bt353.2.1 bt353.2.2 1).bind fun bt389 => ((laws_markMachine.f k bt361.1 bt361.2.1 bt361.2.2 bt389.1).bind fun bt392 => (if bt392.1 < 0 then (laws_FnExactFollowPairs.j0 k t350 t369 true a0_0 l0_1 l0_2 a1_0 l1_1 l1_2) else ((laws_eqIntSS.f k t369 t350).bind fun t395 => (laws_FnExactFollowPairs.j0 k t350 t369 (!t395) a0_0 l0_1 l0_2 a1_0 l1_1 l1_2))))) else (some false)))) else (some false)))) else (some false))))))))))))) = some r := h
 clear h
 obtain ⟨t334, A3, H⟩ := bindS H
 by_cases c4 : t334 < 0
 ·rw [if_pos c4] at H
  have c4b0 : decide (t334 < 0) = true := decide_eq_true c4
  clear c4
  obtain rfl := Option.some.inj H
  go_enter Try.func4, Try.ntmps4
  go_wp2_with (first | ((with_reducible refine gate_dst (N := 2) rfl ?_); refine box_event ?hg (N := 2) ?hd (cs := #[.int .i64 a0_0, .slice A0_1 l0_1.length c0_1, .slice A0_2 l0_2.length c0_2]) (t := 25) ?hr ?_; (case hd => rfl); (case hg => rfl); (case hr => first | (go_simp; done) | (go_simp; rfl)); intro gb332 hg w5 hbox hb; have BK332 := Aside0.mk (hbox); have GW332 := gS HB hg; have GE332 := gS HB hg; replace HB := bS HB hb; clear hb hbox hg) | ((with_reducible refine gate_dst (N := 3) rfl ?_); refine box_event ?hg (N := 3) ?hd (cs := #[.int .i64 a1_0, .slice A1_1 l1_1.length c1_1, .slice A1_2 l1_2.length c1_2]) (t := 25) ?hr ?_; (case hd => rfl); (case hg => rfl); (case hr => first | (go_simp; done) | (go_simp; rfl)); intro gb333 hg w6 hbox hb; have BK333 := Aside0.mk (hbox); have GW333 := gS HB hg; have GE333 := gS HB hg; replace HB := bS HB hb; have NB332_333 := nL BK332 hg; have NB333_332 := nR BK332 hg; replace BK332 := kB BK332 hb; clear hb hbox hg; have hnb7 := NB332_333.out; have hnc7 := NB333_332.out; have hcz8_0 := bc0 BK332; have hcz8_1 := bc1 BK332; have hcz8_2 := bc2 BK332; have hfz8_0 := bf BK332 0; have hfz8_1 := bf BK332 1; have hfz8_2 := bf BK332 2) | ((with_reducible refine gate_callee (f := 9) rfl ?_); refine goesL_ (some 16) rfl rfl Try.func9 (by kernel_rfl) rfl #[.agg #[.int .i64 a0_0, .slice A0_1 l0_1.length c0_1, .slice A0_2 l0_2.length c0_2], .int .i64 1048576] rfl zG ?_; (with_reducible refine (laws_szMachine.calls a0_0 _ _ l0_1 _ _ l0_2 1048576 t334 _ ?side1 ?side2 ?side3 ?side4 A3.out).mono ?_); (case side1 => exact cS HR0_1 HB); (case side2 => exact HC0_1.out); (case side3 => exact cS HR0_2 HB); (case side4 => exact HC0_2.out); rintro e w9 ⟨rfl, hb⟩; refine ⟨_, rfl, ?_⟩; replace BK332 := kB BK332 hb; replace BK333 := kB BK333 hb; replace HB := bS HB hb; (try clear hb)))
  go_ret
  exact ⟨zE, zB HB⟩
 ·rw [if_neg c4] at H
  have c4b0 : decide (t334 < 0) = false := decide_eq_false c4
  clear c4
  obtain ⟨t335, A10, H⟩ := bindS H
  by_cases c11 : t335 < 0
  ·rw [if_pos c11] at H
   have c11b0 : decide (t335 < 0) = true := decide_eq_true c11
   clear c11
   obtain rfl := Option.some.inj H
   go_enter Try.func4, Try.ntmps4
   go_wp2_with (first | ((with_reducible refine gate_dst (N := 2) rfl ?_); refine box_event ?hg (N := 2) ?hd (cs := #[.int .i64 a0_0, .slice A0_1 l0_1.length c0_1, .slice A0_2 l0_2.length c0_2]) (t := 25) ?hr ?_; (case hd => rfl); (case hg => rfl); (case hr => first | (go_simp; done) | (go_simp; rfl)); intro gb332 hg w12 hbox hb; have BK332 := Aside0.mk (hbox); have GW332 := gS HB hg; have GE332 := gS HB hg; replace HB := bS HB hb; clear hb hbox hg) | ((with_reducible refine gate_dst (N := 3) rfl ?_); refine box_event ?hg (N := 3) ?hd (cs := #[.int .i64 a1_0, .slice A1_1 l1_1.length c1_1, .slice A1_2 l1_2.length c1_2]) (t := 25) ?hr ?_; (case hd => rfl); (case hg => rfl); (case hr => first | (go_simp; done) | (go_simp; rfl)); intro gb333 hg w13 hbox hb; have BK333 := Aside0.mk (hbox); have GW333 := gS HB hg; have GE333 := gS HB hg; replace HB := bS HB hb; have NB332_333 := nL BK332 hg; have NB333_332 := nR BK332 hg; replace BK332 := kB BK332 hb; clear hb hbox hg; have hnb14 := NB332_333.out; have hnc14 := NB333_332.out; have hcz15_0 := bc0 BK332; have hcz15_1 := bc1 BK332; have hcz15_2 := bc2 BK332; have hfz15_0 := bf BK332 0; have hfz15_1 := bf BK332 1; have hfz15_2 := bf BK332 2) | ((with_reducible refine gate_callee (f := 9) rfl ?_); refine goesL_ (some 16) rfl rfl Try.func9 (by kernel_rfl) rfl #[.agg #[.int .i64 a0_0, .slice A0_1 l0_1.length c0_1, .slice A0_2 l0_2.length c0_2], .int .i64 1048576] rfl zG ?_; (with_reducible refine (laws_szMachine.calls a0_0 _ _ l0_1 _ _ l0_2 1048576 t334 _ ?side1 ?side2 ?side3 ?side4 A3.out).mono ?_); (case side1 => exact cS HR0_1 HB); (case side2 => exact HC0_1.out); (case side3 => exact cS HR0_2 HB); (case side4 => exact HC0_2.out); rintro e w16 ⟨rfl, hb⟩; refine ⟨_, rfl, ?_⟩; replace BK332 := kB BK332 hb; replace BK333 := kB BK333 hb; replace HB := bS HB hb; (try clear hb); have hcz17_0 := bc0 BK333; have hcz17_1 := bc1 BK333; have hcz17_2 := bc2 BK333; have hfz17_0 := bf BK333 0; have hfz17_1 := bf BK333 1; have hfz17_2 := bf BK333 2) | ((with_reducible refine gate_callee (f := 9) rfl ?_); refine goesL_ (some 21) rfl rfl Try.func9 (by kernel_rfl) rfl #[.agg #[.int .i64 a1_0, .slice A1_1 l1_1.length c1_1, .slice A1_2 l1_2.length c1_2], .int .i64 t334] rfl zG ?_; (with_reducible refine (laws_szMachine.calls a1_0 _ _ l1_1 _ _ l1_2 t334 t335 _ ?side1 ?side2 ?side3 ?side4 A10.out).mono ?_); (case side1 => exact cS HR1_1 HB); (case side2 => exact HC1_1.out); (case side3 => exact cS HR1_2 HB); (case side4 => exact HC1_2.out); rintro e w18 ⟨rfl, hb⟩; refine ⟨_, rfl, ?_⟩; replace BK332 := kB BK332 hb; replace BK333 := kB BK333 hb; replace HB := bS HB hb; (try clear hb)))
   go_ret
   exact ⟨zE, zB HB⟩
  ·rw [if_neg c11] at H
   have c11b0 : decide (t335 < 0) = false := decide_eq_false c11
   clear c11
   replace H := Option.bind_eq_some_iff.mp H
   obtain ⟨⟨t336, t337, t340⟩, A190, H⟩ := H
   replace H : ((laws_toMachine.f k a1_0 l1_1 l1_2).bind fun bt343 => ((spec_FollowPairs.f k t336 t337 t340 bt343.1 bt343.2.1 bt343.2.2).bind fun t350 => ((laws_toMachine.f k a0_0 l0_1 l0_2).bind fun bt353 => ((laws_toMachine.f k a1_0 l1_1 l1_2).bind fun bt361 => ((impl_FollowPairs.f k bt353.1 bt353.2.1 bt353.2.2 bt361.1 bt361.2.1 bt361.2.2).bind fun t369 => ((laws_eqIntSS.f k t369 t350).bind fun t372 => (if t372 = true then ((laws_toMachine.f k a0_0 l0_1 l0_2).bind fun bt373 => ((laws_eqMachine.f k bt353.1 bt353.2.1 bt353.2.2 bt373.1 bt373.2.1 bt373.2.2).bind fun t380 => (if t380 = true then ((laws_toMachine.f k a1_0 l1_1 l1_2).bind fun bt381 => ((laws_eqMachine.f k bt361.1 bt361.2.1 bt361.2.2 bt381.1 bt381.2.1 bt381.2.2).bind fun t388 => (if t388 = true then ((laws_markMachine.f k bt353.1 bt353.2.1 bt353.2.2 1).bind fun bt389 => ((laws_markMachine.f k bt361.1 bt361.2.1 bt361.2.2 bt389.1).bind fun bt392 => (if bt392.1 < 0 then (laws_FnExactFollowPairs.j0 k t350 t369 true a0_0 l0_1 l0_2 a1_0 l1_1 l1_2) else ((laws_eqIntSS.f k t369 t350).bind fun t395 => (laws_FnExactFollowPairs.j0 k t350 t369 (!t395) a0_0 l0_1 l0_2 a1_0 l1_1 l1_2))))) else (some false)))) else (some false)))) else (some false)))))))) = some r := H
   have A19 := Aside0.mk A190
   clear A190
   replace H := Option.bind_eq_some_iff.mp H
   obtain ⟨⟨t343, t344, t347⟩, A200, H⟩ := H
   replace H : ((spec_FollowPairs.f k t336 t337 t340 t343 t344 t347).bind fun t350 => ((laws_toMachine.f k a0_0 l0_1 l0_2).bind fun bt353 => ((laws_toMachine.f k a1_0 l1_1 l1_2).bind fun bt361 => ((impl_FollowPairs.f k bt353.1 bt353.2.1 bt353.2.2 bt361.1 bt361.2.1 bt361.2.2).bind fun t369 => ((laws_eqIntSS.f k t369 t350).bind fun t372 => (if t372 = true then ((laws_toMachine.f k a0_0 l0_1 l0_2).bind fun bt373 => ((laws_eqMachine.f k bt353.1 bt353.2.1 bt353.2.2 bt373.1 bt373.2.1 bt373.2.2).bind fun t380 => (if t380 = true then ((laws_toMachine.f k a1_0 l1_1 l1_2).bind fun bt381 => ((laws_eqMachine.f k bt361.1 bt361.2.1 bt361.2.2 bt381.1 bt381.2.1 bt381.2.2).bind fun t388 => (if t388 = true then ((laws_markMachine.f k bt353.1 bt353.2.1 bt353.2.2 1).bind fun bt389 => ((laws_markMachine.f k bt361.1 bt361.2.1 bt361.2.2 bt389.1).bind fun bt392 => (if bt392.1 < 0 then (laws_FnExactFollowPairs.j0 k t350 t369 true a0_0 l0_1 l0_2 a1_0 l1_1 l1_2) else ((laws_eqIntSS.f k t369 t350).bind fun t395 => (laws_FnExactFollowPairs.j0 k t350 t369 (!t395) a0_0 l0_1 l0_2 a1_0 l1_1 l1_2))))) else (some false)))) else (some false)))) else (some false))))))) = some r := H
   have A20 := Aside0.mk A200
   clear A200
   obtain ⟨t350, A21, H⟩ := bindS H
   replace H := Option.bind_eq_some_iff.mp H
   obtain ⟨⟨t353, t354, t357⟩, A220, H⟩ := H
   replace H : ((laws_toMachine.f k a1_0 l1_1 l1_2).bind fun bt361 => ((impl_FollowPairs.f k t353 t354 t357 bt361.1 bt361.2.1 bt361.2.2).bind fun t369 => ((laws_eqIntSS.f k t369 t350).bind fun t372 => (if t372 = true then ((laws_toMachine.f k a0_0 l0_1 l0_2).bind fun bt373 => ((laws_eqMachine.f k t353 t354 t357 bt373.1 bt373.2.1 bt373.2.2).bind fun t380 => (if t380 = true then ((laws_toMachine.f k a1_0 l1_1 l1_2).bind fun bt381 => ((laws_eqMachine.f k bt361.1 bt361.2.1 bt361.2.2 bt381.1 bt381.2.1 bt381.2.2).bind fun t388 => (if t388 = true then ((laws_markMachine.f k t353 t354 t357 1).bind fun bt389 => ((laws_markMachine.f k bt361.1 bt361.2.1 bt361.2.2 bt389.1).bind fun bt392 => (if bt392.1 < 0 then (laws_FnExactFollowPairs.j0 k t350 t369 true a0_0 l0_1 l0_2 a1_0 l1_1 l1_2) else ((laws_eqIntSS.f k t369 t350).bind fun t395 => (laws_FnExactFollowPairs.j0 k t350 t369 (!t395) a0_0 l0_1 l0_2 a1_0 l1_1 l1_2))))) else (some false)))) else (some false)))) else (some false))))) = some r := H
   have A22 := Aside0.mk A220
   clear A220
   replace H := Option.bind_eq_some_iff.mp H
   obtain ⟨⟨t361, t362, t365⟩, A230, H⟩ := H
   replace H : ((impl_FollowPairs.f k t353 t354 t357 t361 t362 t365).bind fun t369 => ((laws_eqIntSS.f k t369 t350).bind fun t372 => (if t372 = true then ((laws_toMachine.f k a0_0 l0_1 l0_2).bind fun bt373 => ((laws_eqMachine.f k t353 t354 t357 bt373.1 bt373.2.1 bt373.2.2).bind fun t380 => (if t380 = true then ((laws_toMachine.f k a1_0 l1_1 l1_2).bind fun bt381 => ((laws_eqMachine.f k t361 t362 t365 bt381.1 bt381.2.1 bt381.2.2).bind fun t388 => (if t388 = true then ((laws_markMachine.f k t353 t354 t357 1).bind fun bt389 => ((laws_markMachine.f k t361 t362 t365 bt389.1).bind fun bt392 => (if bt392.1 < 0 then (laws_FnExactFollowPairs.j0 k t350 t369 true a0_0 l0_1 l0_2 a1_0 l1_1 l1_2) else ((laws_eqIntSS.f k t369 t350).bind fun t395 => (laws_FnExactFollowPairs.j0 k t350 t369 (!t395) a0_0 l0_1 l0_2 a1_0 l1_1 l1_2))))) else (some false)))) else (some false)))) else (some false)))) = some r := H
   have A23 := Aside0.mk A230
   clear A230
   obtain ⟨t369, A24, H⟩ := bindS H
   obtain ⟨t372, A25, H⟩ := bindS H
   by_cases c26 : t372 = true
   ·subst c26
    have H1 : ((laws_toMachine.f k a0_0 l0_1 l0_2).bind fun bt373 => ((laws_eqMachine.f k t353 t354 t357 bt373.1 bt373.2.1 bt373.2.2).bind fun t380 => (if t380 = true then ((laws_toMachine.f k a1_0 l1_1 l1_2).bind fun bt381 => ((laws_eqMachine.f k t361 t362 t365 bt381.1 bt381.2.1 bt381.2.2).bind fun t388 => (if t388 = true then ((laws_markMachine.f k t353 t354 t357 1).bind fun bt389 => ((laws_markMachine.f k t361 t362 t365 bt389.1).bind fun bt392 => (if bt392.1 < 0 then (laws_FnExactFollowPairs.j0 k t350 t369 true a0_0 l0_1 l0_2 a1_0 l1_1 l1_2) else ((laws_eqIntSS.f k t369 t350).bind fun t395 => (laws_FnExactFollowPairs.j0 k t350 t369 (!t395) a0_0 l0_1 l0_2 a1_0 l1_1 l1_2))))) else (some false)))) else (some false)))) = some r := by rw [if_pos rfl] at H; exact H
    clear H
    have H := H1
    clear H1
    replace H := Option.bind_eq_some_iff.mp H
    obtain ⟨⟨t373, t374, t377⟩, A270, H⟩ := H
    replace H : ((laws_eqMachine.f k t353 t354 t357 t373 t374 t377).bind fun t380 => (if t380 = true then ((laws_toMachine.f k a1_0 l1_1 l1_2).bind fun bt381 => ((laws_eqMachine.f k t361 t362 t365 bt381.1 bt381.2.1 bt381.2.2).bind fun t388 => (if t388 = true then ((laws_markMachine.f k t353 t354 t357 1).bind fun bt389 => ((laws_markMachine.f k t361 t362 t365 bt389.1).bind fun bt392 => (if bt392.1 < 0 then (laws_FnExactFollowPairs.j0 k t350 t369 true a0_0 l0_1 l0_2 a1_0 l1_1 l1_2) else ((laws_eqIntSS.f k t369 t350).bind fun t395 => (laws_FnExactFollowPairs.j0 k t350 t369 (!t395) a0_0 l0_1 l0_2 a1_0 l1_1 l1_2))))) else (some false)))) else (some false))) = some r := H
    have A27 := Aside0.mk A270
    clear A270
    obtain ⟨t380, A28, H⟩ := bindS H
    by_cases c29 : t380 = true
    ·subst c29
     have H1 : ((laws_toMachine.f k a1_0 l1_1 l1_2).bind fun bt381 => ((laws_eqMachine.f k t361 t362 t365 bt381.1 bt381.2.1 bt381.2.2).bind fun t388 => (if t388 = true then ((laws_markMachine.f k t353 t354 t357 1).bind fun bt389 => ((laws_markMachine.f k t361 t362 t365 bt389.1).bind fun bt392 => (if bt392.1 < 0 then (laws_FnExactFollowPairs.j0 k t350 t369 true a0_0 l0_1 l0_2 a1_0 l1_1 l1_2) else ((laws_eqIntSS.f k t369 t350).bind fun t395 => (laws_FnExactFollowPairs.j0 k t350 t369 (!t395) a0_0 l0_1 l0_2 a1_0 l1_1 l1_2))))) else (some false)))) = some r := by rw [if_pos rfl] at H; exact H
     clear H
     have H := H1
     clear H1
     replace H := Option.bind_eq_some_iff.mp H
     obtain ⟨⟨t381, t382, t385⟩, A300, H⟩ := H
     replace H : ((laws_eqMachine.f k t361 t362 t365 t381 t382 t385).bind fun t388 => (if t388 = true then ((laws_markMachine.f k t353 t354 t357 1).bind fun bt389 => ((laws_markMachine.f k t361 t362 t365 bt389.1).bind fun bt392 => (if bt392.1 < 0 then (laws_FnExactFollowPairs.j0 k t350 t369 true a0_0 l0_1 l0_2 a1_0 l1_1 l1_2) else ((laws_eqIntSS.f k t369 t350).bind fun t395 => (laws_FnExactFollowPairs.j0 k t350 t369 (!t395) a0_0 l0_1 l0_2 a1_0 l1_1 l1_2))))) else (some false))) = some r := H
     have A30 := Aside0.mk A300
     clear A300
     obtain ⟨t388, A31, H⟩ := bindS H
     by_cases c32 : t388 = true
     ·subst c32
      have H1 : ((laws_markMachine.f k t353 t354 t357 1).bind fun bt389 => ((laws_markMachine.f k t361 t362 t365 bt389.1).bind fun bt392 => (if bt392.1 < 0 then (laws_FnExactFollowPairs.j0 k t350 t369 true a0_0 l0_1 l0_2 a1_0 l1_1 l1_2) else ((laws_eqIntSS.f k t369 t350).bind fun t395 => (laws_FnExactFollowPairs.j0 k t350 t369 (!t395) a0_0 l0_1 l0_2 a1_0 l1_1 l1_2))))) = some r := by rw [if_pos rfl] at H; exact H
      clear H
      have H := H1
      clear H1
      replace H := Option.bind_eq_some_iff.mp H
      obtain ⟨⟨t389, t390, t391⟩, A330, H⟩ := H
      replace H : ((laws_markMachine.f k t361 t362 t365 t389).bind fun bt392 => (if bt392.1 < 0 then (laws_FnExactFollowPairs.j0 k t350 t369 true a0_0 l0_1 l0_2 a1_0 l1_1 l1_2) else ((laws_eqIntSS.f k t369 t350).bind fun t395 => (laws_FnExactFollowPairs.j0 k t350 t369 (!t395) a0_0 l0_1 l0_2 a1_0 l1_1 l1_2)))) = some r := H
      have A33 := Aside0.mk A330
      clear A330
      replace H := Option.bind_eq_some_iff.mp H
      obtain ⟨⟨t392, t393, t394⟩, A340, H⟩ := H
      replace H : (if t392 < 0 then (laws_FnExactFollowPairs.j0 k t350 t369 true a0_0 l0_1 l0_2 a1_0 l1_1 l1_2) else ((laws_eqIntSS.f k t369 t350).bind fun t395 => (laws_FnExactFollowPairs.j0 k t350 t369 (!t395) a0_0 l0_1 l0_2 a1_0 l1_1 l1_2))) = some r := H
      have A34 := Aside0.mk A340
      clear A340
      have HC35 := Aside0.mk H
      clear H
      go_enter Try.func4, Try.ntmps4
      try go_wp2_with (first | ((with_reducible refine gate_dst (N := 2) rfl ?_); refine box_event ?hg (N := 2) ?hd (cs := #[.int .i64 a0_0, .slice A0_1 l0_1.length c0_1, .slice A0_2 l0_2.length c0_2]) (t := 25) ?hr ?_; (case hd => rfl); (case hg => rfl); (case hr => first | (go_simp; done) | (go_simp; rfl)); intro gb332 hg w36 hbox hb; have BK332 := Aside0.mk (hbox); have GW332 := gS HB hg; have GE332 := gS HB hg; replace HB := bS HB hb; clear hb hbox hg) | ((with_reducible refine gate_dst (N := 3) rfl ?_); refine box_event ?hg (N := 3) ?hd (cs := #[.int .i64 a1_0, .slice A1_1 l1_1.length c1_1, .slice A1_2 l1_2.length c1_2]) (t := 25) ?hr ?_; (case hd => rfl); (case hg => rfl); (case hr => first | (go_simp; done) | (go_simp; rfl)); intro gb333 hg w37 hbox hb; have BK333 := Aside0.mk (hbox); have GW333 := gS HB hg; have GE333 := gS HB hg; replace HB := bS HB hb; have NB332_333 := nL BK332 hg; have NB333_332 := nR BK332 hg; replace BK332 := kB BK332 hb; clear hb hbox hg; have hnb38 := NB332_333.out; have hnc38 := NB333_332.out; have hcz39_0 := bc0 BK332; have hcz39_1 := bc1 BK332; have hcz39_2 := bc2 BK332; have hfz39_0 := bf BK332 0; have hfz39_1 := bf BK332 1; have hfz39_2 := bf BK332 2) | ((with_reducible refine gate_callee (f := 9) rfl ?_); refine goesL_ (some 16) rfl rfl Try.func9 (by kernel_rfl) rfl #[.agg #[.int .i64 a0_0, .slice A0_1 l0_1.length c0_1, .slice A0_2 l0_2.length c0_2], .int .i64 1048576] rfl zG ?_; (with_reducible refine (laws_szMachine.calls a0_0 _ _ l0_1 _ _ l0_2 1048576 t334 _ ?side1 ?side2 ?side3 ?side4 A3.out).mono ?_); (case side1 => exact cS HR0_1 HB); (case side2 => exact HC0_1.out); (case side3 => exact cS HR0_2 HB); (case side4 => exact HC0_2.out); rintro e w40 ⟨rfl, hb⟩; refine ⟨_, rfl, ?_⟩; replace BK332 := kB BK332 hb; replace BK333 := kB BK333 hb; replace HB := bS HB hb; (try clear hb); have hcz41_0 := bc0 BK333; have hcz41_1 := bc1 BK333; have hcz41_2 := bc2 BK333; have hfz41_0 := bf BK333 0; have hfz41_1 := bf BK333 1; have hfz41_2 := bf BK333 2) | ((with_reducible refine gate_callee (f := 9) rfl ?_); refine goesL_ (some 21) rfl rfl Try.func9 (by kernel_rfl) rfl #[.agg #[.int .i64 a1_0, .slice A1_1 l1_1.length c1_1, .slice A1_2 l1_2.length c1_2], .int .i64 t334] rfl zG ?_; (with_reducible refine (laws_szMachine.calls a1_0 _ _ l1_1 _ _ l1_2 t334 t335 _ ?side1 ?side2 ?side3 ?side4 A10.out).mono ?_); (case side1 => exact cS HR1_1 HB); (case side2 => exact HC1_1.out); (case side3 => exact cS HR1_2 HB); (case side4 => exact HC1_2.out); rintro e w42 ⟨rfl, hb⟩; refine ⟨_, rfl, ?_⟩; replace BK332 := kB BK332 hb; replace BK333 := kB BK333 hb; replace HB := bS HB hb; (try clear hb)))
      replace BK332 := Aside0.mk (blk_drew BK332.out)
      replace BK333 := Aside0.mk (blk_drew BK333.out)
      replace HB := Aside0.mk (below_drew1 HB.out)
      refine start_ (n := 6) (S := fun w' => w'.cell? ⟨gb332, 0, none⟩ = some (.int .i64 a0_0) ∧ w'.cell? ⟨gb332, 1, none⟩ = some (.slice A0_1 l0_1.length c0_1) ∧ w'.cell? ⟨gb332, 2, none⟩ = some (.slice A0_2 l0_2.length c0_2) ∧ w'.cell? ⟨gb333, 0, none⟩ = some (.int .i64 a1_0) ∧ w'.cell? ⟨gb333, 1, none⟩ = some (.slice A1_1 l1_1.length c1_1) ∧ w'.cell? ⟨gb333, 2, none⟩ = some (.slice A1_2 l1_2.length c1_2)) (ds := []) (bm 6 0) (by kernel_rfl) rfl (bm0 _) ⟨bc0 BK332, bc1 BK332, bc2 BK332, bc0 BK333, bc1 BK333, bc2 BK333⟩ (fun hHeld => ?_)
      generalize w42.drew = w43 at BK332 BK333 HB hHeld ⊢
      refine take_ (i := 0) (N := some 24) (v := ?_) (a' := ?_) (bm 6 1) rfl rfl (by kernel_rfl) (fun _ _ _ h => h) (Or.inl ⟨by rfl, ?_⟩) hHeld ?_ ?_
      rotate_left
      ·rintro w' ⟨s0, s1, s2, s3, s4, s5⟩
       go_simp
       with_reducible rfl
      rotate_left
      ·simp only [Act.put, List.setIfInBounds_toArray, List.set_cons_zero, List.set_cons_succ, i64_w, i32_w]
       rfl
      refine take_ (i := 2) (N := some 26) (v := ?_) (a' := ?_) (bm 6 5) rfl rfl (by kernel_rfl) (fun _ _ _ h => h) (Or.inl ⟨by rfl, ?_⟩) hHeld ?_ ?_
      rotate_left
      ·rintro w' ⟨s0, s1, s2, s3, s4, s5⟩
       go_simp
       with_reducible rfl
      rotate_left
      ·simp only [Act.put, List.setIfInBounds_toArray, List.set_cons_zero, List.set_cons_succ, i64_w, i32_w]
       rfl
      refine one_ (i := 1) (N := some 25) (bm 6 7) rfl rfl (by kernel_rfl) (by decide) (fun K hK => ?_)
      refine goes_ Try.func11 (by kernel_rfl) rfl #[.agg #[.int .i64 a0_0, .slice A0_1 l0_1.length c0_1, .slice A0_2 l0_2.length c0_2]] (by rfl) rfl rfl zG ?_
      with_reducible refine (laws_toMachine.calls k a0_0 _ _ l0_1 _ _ l0_2 t336 t337 t340 _ ?side1 ?side2 ?side3 ?side4 A19.out).mono ?_
      (case side1 => exact cS HR0_1 HB)
      (case side2 => exact HC0_1.out)
      (case side3 => exact cS HR0_2 HB)
      (case side4 => exact HC0_2.out)
      rintro e w44 ⟨v338, v341, rfl, ho0, ho1, hb⟩
      refine ⟨_, rfl, ?_⟩
      have HO339 := Aside0.mk (Kd.R_lower ho0 (below_size (zB HB)))
      have HO342 := Aside0.mk (Kd.R_lower ho1 (below_size (zB HB)))
      replace BK332 := kB BK332 hb
      replace BK333 := kB BK333 hb
      replace HB := bS HB hb
      (try clear hb)
      (try clear hb2)
      (try clear hk)
      (try clear hi)
      (try clear ho0)
      (try clear ho1)
      refine hK.out _ _ ⟨bc0 BK332, bc1 BK332, bc2 BK332, bc0 BK333, bc1 BK333, bc2 BK333⟩ (fun hHeld => ?_)
      clear hK K
      refine norm_ (a' := ?_) ?_ ?_
      rotate_left
      ·show Act.put _ (some 25) _ = _
       simp only [Act.put, List.setIfInBounds_toArray, List.set_cons_zero, List.set_cons_succ, i64_w, i32_w]
       rfl
      refine one_ (i := 3) (N := some 27) (bm 6 15) rfl rfl (by kernel_rfl) (by decide) (fun K hK => ?_)
      refine goes_ Try.func11 (by kernel_rfl) rfl #[.agg #[.int .i64 a1_0, .slice A1_1 l1_1.length c1_1, .slice A1_2 l1_2.length c1_2]] (by rfl) rfl rfl zG ?_
      with_reducible refine (laws_toMachine.calls k a1_0 _ _ l1_1 _ _ l1_2 t343 t344 t347 _ ?side1 ?side2 ?side3 ?side4 A20.out).mono ?_
      (case side1 => exact cS HR1_1 HB)
      (case side2 => exact HC1_1.out)
      (case side3 => exact cS HR1_2 HB)
      (case side4 => exact HC1_2.out)
      rintro e w45 ⟨v345, v348, rfl, ho0, ho1, hb⟩
      refine ⟨_, rfl, ?_⟩
      have HO346 := Aside0.mk (Kd.R_lower (Kd.R_new' ho0 (Kd.R_lt (zR HO339))) (below_size (zB HB)))
      replace HO339 := Aside0.mk (Kd.R_elder' (zR HO339) (Kd.R_base ho0) hb)
      have HO349 := Aside0.mk (Kd.R_lower (Kd.R_new' ho1 (Kd.R_lt (zR HO342))) (below_size (zB HB)))
      replace HO342 := Aside0.mk (Kd.R_elder' (zR HO342) (Kd.R_base ho1) hb)
      replace BK332 := kB BK332 hb
      replace BK333 := kB BK333 hb
      replace HB := bS HB hb
      (try clear hb)
      (try clear hb2)
      (try clear hk)
      (try clear hi)
      (try clear ho0)
      (try clear ho1)
      obtain ⟨Ao46, co46, eo46⟩ := Kd.R_slice HO339.out
      (first | subst eo46 | (injection eo46 with f1_ f2_ f3_; have f4_ := f1_.symm; have f5_ := f3_.symm; clear f1_ f2_ f3_; subst f4_; subst f5_))
      obtain ⟨Ao47, co47, eo47⟩ := Kd.R_slice HO342.out
      (first | subst eo47 | (injection eo47 with f1_ f2_ f3_; have f4_ := f1_.symm; have f5_ := f3_.symm; clear f1_ f2_ f3_; subst f4_; subst f5_))
      obtain ⟨Ao48, co48, eo48⟩ := Kd.R_slice HO346.out
      (first | subst eo48 | (injection eo48 with f1_ f2_ f3_; have f4_ := f1_.symm; have f5_ := f3_.symm; clear f1_ f2_ f3_; subst f4_; subst f5_))
      obtain ⟨Ao49, co49, eo49⟩ := Kd.R_slice HO349.out
      (first | subst eo49 | (injection eo49 with f1_ f2_ f3_; have f4_ := f1_.symm; have f5_ := f3_.symm; clear f1_ f2_ f3_; subst f4_; subst f5_))
      refine hK.out _ _ ⟨bc0 BK332, bc1 BK332, bc2 BK332, bc0 BK333, bc1 BK333, bc2 BK333⟩ (fun hHeld => ?_)
      clear hK K
      refine norm_ (a' := ?_) ?_ ?_
      rotate_left
      ·show Act.put _ (some 27) _ = _
       simp only [Act.put, List.setIfInBounds_toArray, List.set_cons_zero, List.set_cons_succ, i64_w, i32_w]
       rfl
      refine one_ (i := 4) (N := some 28) (bm 6 31) rfl rfl (by kernel_rfl) (by decide) (fun K hK => ?_)
      refine goes_ Try.func18 (by kernel_rfl) rfl #[.agg #[.int .i64 t336, .slice Ao46 t337.length co46, .slice Ao47 t340.length co47], .agg #[.int .i64 t343, .slice Ao48 t344.length co48, .slice Ao49 t347.length co49]] (by rfl) rfl rfl zG ?_
      with_reducible refine (spec_FollowPairs.calls k t336 _ _ t337 _ _ t340 t343 _ _ t344 _ _ t347 t350 _ ?side1 ?side2 ?side3 ?side4 ?side5 ?side6 ?side7 ?side8 A21.out).mono ?_
      (case side1 => repeat (first | exact (Kd.R_reads' HO339.out).2.2 | (with_reducible refine Kd.C_alloc ?_ _) | (with_reducible refine Kd.C_drewN ?_ _) | (with_reducible refine Kd.C_drew ?_)))
      (case side2 => exact (Kd.R_reads' HO339.out).2.1)
      (case side3 => repeat (first | exact (Kd.R_reads' HO342.out).2.2 | (with_reducible refine Kd.C_alloc ?_ _) | (with_reducible refine Kd.C_drewN ?_ _) | (with_reducible refine Kd.C_drew ?_)))
      (case side4 => exact (Kd.R_reads' HO342.out).2.1)
      (case side5 => repeat (first | exact (Kd.R_reads' HO346.out).2.2 | (with_reducible refine Kd.C_alloc ?_ _) | (with_reducible refine Kd.C_drewN ?_ _) | (with_reducible refine Kd.C_drew ?_)))
      (case side6 => exact (Kd.R_reads' HO346.out).2.1)
      (case side7 => repeat (first | exact (Kd.R_reads' HO349.out).2.2 | (with_reducible refine Kd.C_alloc ?_ _) | (with_reducible refine Kd.C_drewN ?_ _) | (with_reducible refine Kd.C_drew ?_)))
      (case side8 => exact (Kd.R_reads' HO349.out).2.1)
      rintro e w50 ⟨v351, rfl, ho0, hb⟩
      refine ⟨_, rfl, ?_⟩
      replace HO339 := Aside0.mk (Kd.R_below (zR HO339) hb)
      replace HO342 := Aside0.mk (Kd.R_below (zR HO342) hb)
      replace HO346 := Aside0.mk (Kd.R_below (zR HO346) hb)
      replace HO349 := Aside0.mk (Kd.R_below (zR HO349) hb)
      have HO352 := Aside0.mk (Kd.S_lower ho0 (below_size (zB HB)))
      replace BK332 := kB BK332 hb
      replace BK333 := kB BK333 hb
      replace HB := bS HB hb
      (try clear hb)
      (try clear hb2)
      (try clear hk)
      (try clear hi)
      (try clear ho0)
      refine hK.out _ _ ⟨bc0 BK332, bc1 BK332, bc2 BK332, bc0 BK333, bc1 BK333, bc2 BK333⟩ (fun hHeld => ?_)
      clear hK K
      refine norm_ (a' := ?_) ?_ ?_
      rotate_left
      ·show Act.put _ (some 28) _ = _
       simp only [Act.put, List.setIfInBounds_toArray, List.set_cons_zero, List.set_cons_succ, i64_w, i32_w]
       rfl
      refine pure_ (i := 5) (N := some 6) (v := ?_) (a' := ?_) (bm 6 63) rfl rfl (by kernel_rfl) (fun _ _ _ h => h) (Or.inl ⟨by rfl, ?_⟩) ?_ ?_
      rotate_left
      ·intro w'
       go_simp
       with_reducible rfl
      rotate_left
      ·simp only [Act.put, List.setIfInBounds_toArray, List.set_cons_zero, List.set_cons_succ, i64_w, i32_w]
       rfl
      refine done_ (by kernel_rfl) ?_
      try clear hHeld
      have hcz51_0 := bc0 BK332
      have hcz51_1 := bc1 BK332
      have hcz51_2 := bc2 BK332
      have hfz51_0 := bf BK332 0
      have hfz51_1 := bf BK332 1
      have hfz51_2 := bf BK332 2
      try go_wp2_with (first | ((with_reducible refine gate_callee (f := 11) rfl ?_); refine goesL_ (some 30) rfl rfl Try.func11 (by kernel_rfl) rfl #[.agg #[.int .i64 a0_0, .slice A0_1 l0_1.length c0_1, .slice A0_2 l0_2.length c0_2]] rfl zG ?_; (with_reducible refine (laws_toMachine.calls k a0_0 _ _ l0_1 _ _ l0_2 t353 t354 t357 _ ?side1 ?side2 ?side3 ?side4 A22.out).mono ?_); (case side1 => exact cS HR0_1 HB); (case side2 => exact HC0_1.out); (case side3 => exact cS HR0_2 HB); (case side4 => exact HC0_2.out); rintro e w52 ⟨v355, v358, rfl, ho0, ho1, hb⟩; refine ⟨_, rfl, ?_⟩; replace HO352 := Aside0.mk (Kd.S_below (zS HO352) hb); have HO356 := Aside0.mk (Kd.R_lower (Kd.R_new' (Kd.R_new' ho0 (Kd.R_lt (zR HO339))) (Kd.R_lt (zR HO346))) (below_size (zB HB))); replace HO339 := Aside0.mk (Kd.R_elder' (zR HO339) (Kd.R_base ho0) hb); replace HO346 := Aside0.mk (Kd.R_elder' (zR HO346) (Kd.R_base ho0) hb); have HO359 := Aside0.mk (Kd.R_lower (Kd.R_new' (Kd.R_new' ho1 (Kd.R_lt (zR HO342))) (Kd.R_lt (zR HO349))) (below_size (zB HB))); replace HO342 := Aside0.mk (Kd.R_elder' (zR HO342) (Kd.R_base ho1) hb); replace HO349 := Aside0.mk (Kd.R_elder' (zR HO349) (Kd.R_base ho1) hb); replace BK332 := kB BK332 hb; replace BK333 := kB BK333 hb; replace HB := bS HB hb; (try clear hb); (try clear ho0); (try clear ho1)) | ((with_reducible refine gate_dst (N := 7) rfl ?_); refine box_event ?hg (N := 7) ?hd (cs := #[.int .i64 0, .slice none 0 0, .slice none 0 0]) (t := 31) ?hr ?_; (case hd => rfl); (case hg => rfl); (case hr => first | (go_simp; done) | (go_simp; rfl)); intro gb360 hg w53 hbox hb; replace HO339 := Aside0.mk (Kd.R_below (zR HO339) hb); replace HO342 := Aside0.mk (Kd.R_below (zR HO342) hb); replace HO346 := Aside0.mk (Kd.R_below (zR HO346) hb); replace HO349 := Aside0.mk (Kd.R_below (zR HO349) hb); replace HO352 := Aside0.mk (Kd.S_below (zS HO352) hb); replace HO356 := Aside0.mk (Kd.R_below (zR HO356) hb); replace HO359 := Aside0.mk (Kd.R_below (zR HO359) hb); have BK360 := Aside0.mk (hbox); have GW360 := gS HB hg; have GE360 := gS HB hg; replace HB := bS HB hb; have NB332_360 := nL BK332 hg; have NB360_332 := nR BK332 hg; replace BK332 := kB BK332 hb; have NB333_360 := nL BK333 hg; have NB360_333 := nR BK333 hg; replace BK333 := kB BK333 hb; clear hb hbox hg; have hnb54 := NB360_332.out; have hnc54 := NB332_360.out; have hnb55 := NB360_333.out; have hnc55 := NB333_360.out; have hcz56_0 := bc0 BK360; have hcz56_1 := bc1 BK360; have hcz56_2 := bc2 BK360; have hfz56_0 := bf BK360 0; have hfz56_1 := bf BK360 1; have hfz56_2 := bf BK360 2; obtain ⟨Ao57, co57, eo57⟩ := Kd.R_slice HO356.out; subst eo57; obtain ⟨Ao58, co58, eo58⟩ := Kd.R_slice HO359.out; subst eo58; have hcz59_0 := bc0 BK333; have hcz59_1 := bc1 BK333; have hcz59_2 := bc2 BK333; have hfz59_0 := bf BK333 0; have hfz59_1 := bf BK333 1; have hfz59_2 := bf BK333 2) | ((with_reducible refine gate_callee (f := 11) rfl ?_); refine goesL_ (some 32) rfl rfl Try.func11 (by kernel_rfl) rfl #[.agg #[.int .i64 a1_0, .slice A1_1 l1_1.length c1_1, .slice A1_2 l1_2.length c1_2]] rfl zG ?_; (with_reducible refine (laws_toMachine.calls k a1_0 _ _ l1_1 _ _ l1_2 t361 t362 t365 _ ?side1 ?side2 ?side3 ?side4 A23.out).mono ?_); (case side1 => exact Kd.C_below HR1_1.out (zB HB)); (case side2 => exact HC1_1.out); (case side3 => exact Kd.C_below HR1_2.out (zB HB)); (case side4 => exact HC1_2.out); rintro e w60 ⟨v363, v366, rfl, ho0, ho1, hb⟩; refine ⟨_, rfl, ?_⟩; replace HO352 := Aside0.mk (Kd.S_below (by (with_reducible repeat (first | apply Kd.S_alloc | apply Kd.S_drewN | apply Kd.S_drew)); exact (Kd.S_mono (Kd.S_far (p := ⟨gb360, 2, none⟩) (Kd.S_far (p := ⟨gb360, 1, none⟩) (Kd.S_far (p := ⟨gb360, 0, none⟩) (Kd.S_types HO352.out BK360.out (by decide)) (fun _ hk => hk.2) (.int .i64 t353)) (fun _ hk => hk.2) (.slice Ao57 t354.length co57)) (fun _ hk => hk.2) (.slice Ao58 t357.length co58)) (fun _ h_ => h_.1))) hb); have HO364 := Aside0.mk (Kd.R_lower (Kd.R_new' (Kd.R_new' (Kd.R_new' ho0 (Kd.R_lt (by (with_reducible repeat (first | apply Kd.R_alloc | apply Kd.R_drewN | apply Kd.R_drew)); exact (Kd.R_mono (Kd.R_far (p := ⟨gb360, 2, none⟩) (Kd.R_far (p := ⟨gb360, 1, none⟩) (Kd.R_far (p := ⟨gb360, 0, none⟩) (Kd.R_types HO339.out BK360.out (by decide)) (fun _ hk => hk.2) (.int .i64 t353)) (fun _ hk => hk.2) (.slice Ao57 t354.length co57)) (fun _ hk => hk.2) (.slice Ao58 t357.length co58)) (fun _ h_ => h_.1))))) (Kd.R_lt (by (with_reducible repeat (first | apply Kd.R_alloc | apply Kd.R_drewN | apply Kd.R_drew)); exact (Kd.R_mono (Kd.R_far (p := ⟨gb360, 2, none⟩) (Kd.R_far (p := ⟨gb360, 1, none⟩) (Kd.R_far (p := ⟨gb360, 0, none⟩) (Kd.R_types HO346.out BK360.out (by decide)) (fun _ hk => hk.2) (.int .i64 t353)) (fun _ hk => hk.2) (.slice Ao57 t354.length co57)) (fun _ hk => hk.2) (.slice Ao58 t357.length co58)) (fun _ h_ => h_.1))))) (Kd.R_lt (by (with_reducible repeat (first | apply Kd.R_alloc | apply Kd.R_drewN | apply Kd.R_drew)); exact (Kd.R_mono (Kd.R_far (p := ⟨gb360, 2, none⟩) (Kd.R_far (p := ⟨gb360, 1, none⟩) (Kd.R_far (p := ⟨gb360, 0, none⟩) (Kd.R_types HO356.out BK360.out (by decide)) (fun _ hk => hk.2) (.int .i64 t353)) (fun _ hk => hk.2) (.slice Ao57 t354.length co57)) (fun _ hk => hk.2) (.slice Ao58 t357.length co58)) (fun _ h_ => h_.1))))) (below_size (zB HB))); replace HO339 := Aside0.mk (Kd.R_elder' (by (with_reducible repeat (first | apply Kd.R_alloc | apply Kd.R_drewN | apply Kd.R_drew)); exact (Kd.R_mono (Kd.R_far (p := ⟨gb360, 2, none⟩) (Kd.R_far (p := ⟨gb360, 1, none⟩) (Kd.R_far (p := ⟨gb360, 0, none⟩) (Kd.R_types HO339.out BK360.out (by decide)) (fun _ hk => hk.2) (.int .i64 t353)) (fun _ hk => hk.2) (.slice Ao57 t354.length co57)) (fun _ hk => hk.2) (.slice Ao58 t357.length co58)) (fun _ h_ => h_.1))) (Kd.R_base ho0) hb); replace HO346 := Aside0.mk (Kd.R_elder' (by (with_reducible repeat (first | apply Kd.R_alloc | apply Kd.R_drewN | apply Kd.R_drew)); exact (Kd.R_mono (Kd.R_far (p := ⟨gb360, 2, none⟩) (Kd.R_far (p := ⟨gb360, 1, none⟩) (Kd.R_far (p := ⟨gb360, 0, none⟩) (Kd.R_types HO346.out BK360.out (by decide)) (fun _ hk => hk.2) (.int .i64 t353)) (fun _ hk => hk.2) (.slice Ao57 t354.length co57)) (fun _ hk => hk.2) (.slice Ao58 t357.length co58)) (fun _ h_ => h_.1))) (Kd.R_base ho0) hb); replace HO356 := Aside0.mk (Kd.R_elder' (by (with_reducible repeat (first | apply Kd.R_alloc | apply Kd.R_drewN | apply Kd.R_drew)); exact (Kd.R_mono (Kd.R_far (p := ⟨gb360, 2, none⟩) (Kd.R_far (p := ⟨gb360, 1, none⟩) (Kd.R_far (p := ⟨gb360, 0, none⟩) (Kd.R_types HO356.out BK360.out (by decide)) (fun _ hk => hk.2) (.int .i64 t353)) (fun _ hk => hk.2) (.slice Ao57 t354.length co57)) (fun _ hk => hk.2) (.slice Ao58 t357.length co58)) (fun _ h_ => h_.1))) (Kd.R_base ho0) hb); have HO367 := Aside0.mk (Kd.R_lower (Kd.R_new' (Kd.R_new' (Kd.R_new' ho1 (Kd.R_lt (by (with_reducible repeat (first | apply Kd.R_alloc | apply Kd.R_drewN | apply Kd.R_drew)); exact (Kd.R_mono (Kd.R_far (p := ⟨gb360, 2, none⟩) (Kd.R_far (p := ⟨gb360, 1, none⟩) (Kd.R_far (p := ⟨gb360, 0, none⟩) (Kd.R_types HO342.out BK360.out (by decide)) (fun _ hk => hk.2) (.int .i64 t353)) (fun _ hk => hk.2) (.slice Ao57 t354.length co57)) (fun _ hk => hk.2) (.slice Ao58 t357.length co58)) (fun _ h_ => h_.1))))) (Kd.R_lt (by (with_reducible repeat (first | apply Kd.R_alloc | apply Kd.R_drewN | apply Kd.R_drew)); exact (Kd.R_mono (Kd.R_far (p := ⟨gb360, 2, none⟩) (Kd.R_far (p := ⟨gb360, 1, none⟩) (Kd.R_far (p := ⟨gb360, 0, none⟩) (Kd.R_types HO349.out BK360.out (by decide)) (fun _ hk => hk.2) (.int .i64 t353)) (fun _ hk => hk.2) (.slice Ao57 t354.length co57)) (fun _ hk => hk.2) (.slice Ao58 t357.length co58)) (fun _ h_ => h_.1))))) (Kd.R_lt (by (with_reducible repeat (first | apply Kd.R_alloc | apply Kd.R_drewN | apply Kd.R_drew)); exact (Kd.R_mono (Kd.R_far (p := ⟨gb360, 2, none⟩) (Kd.R_far (p := ⟨gb360, 1, none⟩) (Kd.R_far (p := ⟨gb360, 0, none⟩) (Kd.R_types HO359.out BK360.out (by decide)) (fun _ hk => hk.2) (.int .i64 t353)) (fun _ hk => hk.2) (.slice Ao57 t354.length co57)) (fun _ hk => hk.2) (.slice Ao58 t357.length co58)) (fun _ h_ => h_.1))))) (below_size (zB HB))); replace HO342 := Aside0.mk (Kd.R_elder' (by (with_reducible repeat (first | apply Kd.R_alloc | apply Kd.R_drewN | apply Kd.R_drew)); exact (Kd.R_mono (Kd.R_far (p := ⟨gb360, 2, none⟩) (Kd.R_far (p := ⟨gb360, 1, none⟩) (Kd.R_far (p := ⟨gb360, 0, none⟩) (Kd.R_types HO342.out BK360.out (by decide)) (fun _ hk => hk.2) (.int .i64 t353)) (fun _ hk => hk.2) (.slice Ao57 t354.length co57)) (fun _ hk => hk.2) (.slice Ao58 t357.length co58)) (fun _ h_ => h_.1))) (Kd.R_base ho1) hb); replace HO349 := Aside0.mk (Kd.R_elder' (by (with_reducible repeat (first | apply Kd.R_alloc | apply Kd.R_drewN | apply Kd.R_drew)); exact (Kd.R_mono (Kd.R_far (p := ⟨gb360, 2, none⟩) (Kd.R_far (p := ⟨gb360, 1, none⟩) (Kd.R_far (p := ⟨gb360, 0, none⟩) (Kd.R_types HO349.out BK360.out (by decide)) (fun _ hk => hk.2) (.int .i64 t353)) (fun _ hk => hk.2) (.slice Ao57 t354.length co57)) (fun _ hk => hk.2) (.slice Ao58 t357.length co58)) (fun _ h_ => h_.1))) (Kd.R_base ho1) hb); replace HO359 := Aside0.mk (Kd.R_elder' (by (with_reducible repeat (first | apply Kd.R_alloc | apply Kd.R_drewN | apply Kd.R_drew)); exact (Kd.R_mono (Kd.R_far (p := ⟨gb360, 2, none⟩) (Kd.R_far (p := ⟨gb360, 1, none⟩) (Kd.R_far (p := ⟨gb360, 0, none⟩) (Kd.R_types HO359.out BK360.out (by decide)) (fun _ hk => hk.2) (.int .i64 t353)) (fun _ hk => hk.2) (.slice Ao57 t354.length co57)) (fun _ hk => hk.2) (.slice Ao58 t357.length co58)) (fun _ h_ => h_.1))) (Kd.R_base ho1) hb); replace BK332 := Aside0.mk (blk_below (g := gb332) (o := .cells #[.int .i64 a0_0, .slice A0_1 l0_1.length c0_1, .slice A0_2 l0_2.length c0_2] 25 (0, 0)) (by (with_reducible repeat (first | refine blk_drewN ?_ _ | refine blk_drew ?_ | refine blk_alloc ?_ _)); refine blk_far ?_ NB332_360.out _; (with_reducible repeat (first | refine blk_drewN ?_ _ | refine blk_drew ?_ | refine blk_alloc ?_ _)); refine blk_far ?_ NB332_360.out _; (with_reducible repeat (first | refine blk_drewN ?_ _ | refine blk_drew ?_ | refine blk_alloc ?_ _)); refine blk_far ?_ NB332_360.out _; (with_reducible repeat (first | refine blk_drewN ?_ _ | refine blk_drew ?_ | refine blk_alloc ?_ _)); exact BK332.out) hb); replace BK333 := Aside0.mk (blk_below (g := gb333) (o := .cells #[.int .i64 a1_0, .slice A1_1 l1_1.length c1_1, .slice A1_2 l1_2.length c1_2] 25 (0, 0)) (by (with_reducible repeat (first | refine blk_drewN ?_ _ | refine blk_drew ?_ | refine blk_alloc ?_ _)); refine blk_far ?_ NB333_360.out _; (with_reducible repeat (first | refine blk_drewN ?_ _ | refine blk_drew ?_ | refine blk_alloc ?_ _)); refine blk_far ?_ NB333_360.out _; (with_reducible repeat (first | refine blk_drewN ?_ _ | refine blk_drew ?_ | refine blk_alloc ?_ _)); refine blk_far ?_ NB333_360.out _; (with_reducible repeat (first | refine blk_drewN ?_ _ | refine blk_drew ?_ | refine blk_alloc ?_ _)); exact BK333.out) hb); replace BK360 := Aside0.mk (blk_below (g := gb360) (o := .cells #[.int .i64 t353, .slice Ao57 t354.length co57, .slice Ao58 t357.length co58] 31 (0, 0)) (by (with_reducible repeat (first | refine blk_drewN ?_ _ | refine blk_drew ?_ | refine blk_alloc ?_ _)); refine blk_put (cs := #[.int .i64 t353, .slice Ao57 t354.length co57, .slice none 0 0]) ?_ 2 _ rfl; (with_reducible repeat (first | refine blk_drewN ?_ _ | refine blk_drew ?_ | refine blk_alloc ?_ _)); refine blk_put (cs := #[.int .i64 t353, .slice none 0 0, .slice none 0 0]) ?_ 1 _ rfl; (with_reducible repeat (first | refine blk_drewN ?_ _ | refine blk_drew ?_ | refine blk_alloc ?_ _)); refine blk_put (cs := #[.int .i64 0, .slice none 0 0, .slice none 0 0]) ?_ 0 _ rfl; (with_reducible repeat (first | refine blk_drewN ?_ _ | refine blk_drew ?_ | refine blk_alloc ?_ _)); exact BK360.out) hb); replace HB := bS HB hb; (try clear hb); (try clear ho0); (try clear ho1)) | ((with_reducible refine gate_dst (N := 8) rfl ?_); refine box_event ?hg (N := 8) ?hd (cs := #[.int .i64 0, .slice none 0 0, .slice none 0 0]) (t := 31) ?hr ?_; (case hd => rfl); (case hg => rfl); (case hr => first | (go_simp; done) | (go_simp; rfl)); intro gb368 hg w61 hbox hb; replace HO339 := Aside0.mk (Kd.R_below (zR HO339) hb); replace HO342 := Aside0.mk (Kd.R_below (zR HO342) hb); replace HO346 := Aside0.mk (Kd.R_below (zR HO346) hb); replace HO349 := Aside0.mk (Kd.R_below (zR HO349) hb); replace HO352 := Aside0.mk (Kd.S_below (zS HO352) hb); replace HO356 := Aside0.mk (Kd.R_below (zR HO356) hb); replace HO359 := Aside0.mk (Kd.R_below (zR HO359) hb); replace HO364 := Aside0.mk (Kd.R_below (zR HO364) hb); replace HO367 := Aside0.mk (Kd.R_below (zR HO367) hb); have BK368 := Aside0.mk (hbox); have GW368 := gS HB hg; have GE368 := gS HB hg; replace HB := bS HB hb; have NB332_368 := nL BK332 hg; have NB368_332 := nR BK332 hg; replace BK332 := kB BK332 hb; have NB333_368 := nL BK333 hg; have NB368_333 := nR BK333 hg; replace BK333 := kB BK333 hb; have NB360_368 := nL BK360 hg; have NB368_360 := nR BK360 hg; replace BK360 := kB BK360 hb; clear hb hbox hg; have hnb62 := NB368_332.out; have hnc62 := NB332_368.out; have hnb63 := NB368_333.out; have hnc63 := NB333_368.out; have hnb64 := NB368_360.out; have hnc64 := NB360_368.out; have hcz65_0 := bc0 BK368; have hcz65_1 := bc1 BK368; have hcz65_2 := bc2 BK368; have hfz65_0 := bf BK368 0; have hfz65_1 := bf BK368 1; have hfz65_2 := bf BK368 2; obtain ⟨Ao66, co66, eo66⟩ := Kd.R_slice HO364.out; subst eo66; obtain ⟨Ao67, co67, eo67⟩ := Kd.R_slice HO367.out; subst eo67; have hcz68_0 := bc0 BK360; have hcz68_1 := bc1 BK360; have hcz68_2 := bc2 BK360; have hfz68_0 := bf BK360 0; have hfz68_1 := bf BK360 1; have hfz68_2 := bf BK360 2) | ((with_reducible refine gate_callee (f := 19) rfl ?_); refine goesL_ (some 35) rfl rfl Try.func19 (by kernel_rfl) rfl #[.agg #[.int .i64 t353, .slice Ao57 t354.length co57, .slice Ao58 t357.length co58], .agg #[.int .i64 t361, .slice Ao66 t362.length co66, .slice Ao67 t365.length co67]] rfl zG ?_; (with_reducible refine (impl_FollowPairs.calls k t353 _ _ t354 _ _ t357 t361 _ _ t362 _ _ t365 t369 _ ?side1 ?side2 ?side3 ?side4 ?side5 ?side6 ?side7 ?side8 A24.out).mono ?_); (case side1 => refine (Kd.R_reads' (e := 4) (base := w.heap.size) (ok := fun k_ => (((True ∧ some k_ ≠ (.slice Ao46 t337.length co46 : Value).ownBlock) ∧ some k_ ≠ (.slice Ao48 t344.length co48 : Value).ownBlock) ∧ some k_ ≠ (.slice Ao66 t362.length co66 : Value).ownBlock)) (n := t354.length) (c := co57) ?_).2.2; exact (by (with_reducible repeat (first | apply Kd.R_alloc | apply Kd.R_drewN | apply Kd.R_drew)); exact (Kd.R_mono (Kd.R_far (p := ⟨gb368, 2, none⟩) (Kd.R_far (p := ⟨gb368, 1, none⟩) (Kd.R_far (p := ⟨gb368, 0, none⟩) (Kd.R_types HO356.out BK368.out (by decide)) (fun _ hk => hk.2) (.int .i64 t361)) (fun _ hk => hk.2) (.slice Ao66 t362.length co66)) (fun _ hk => hk.2) (.slice Ao67 t365.length co67)) (fun _ h_ => h_.1)))); (case side2 => exact (Kd.R_reads' HO356.out).2.1); (case side3 => refine (Kd.R_reads' (e := 64) (base := w.heap.size) (ok := fun k_ => (((True ∧ some k_ ≠ (.slice Ao47 t340.length co47 : Value).ownBlock) ∧ some k_ ≠ (.slice Ao49 t347.length co49 : Value).ownBlock) ∧ some k_ ≠ (.slice Ao67 t365.length co67 : Value).ownBlock)) (n := t357.length) (c := co58) ?_).2.2; exact (by (with_reducible repeat (first | apply Kd.R_alloc | apply Kd.R_drewN | apply Kd.R_drew)); exact (Kd.R_mono (Kd.R_far (p := ⟨gb368, 2, none⟩) (Kd.R_far (p := ⟨gb368, 1, none⟩) (Kd.R_far (p := ⟨gb368, 0, none⟩) (Kd.R_types HO359.out BK368.out (by decide)) (fun _ hk => hk.2) (.int .i64 t361)) (fun _ hk => hk.2) (.slice Ao66 t362.length co66)) (fun _ hk => hk.2) (.slice Ao67 t365.length co67)) (fun _ h_ => h_.1)))); (case side4 => exact (Kd.R_reads' HO359.out).2.1); (case side5 => refine (Kd.R_reads' (e := 4) (base := w.heap.size) (ok := fun k_ => (((True ∧ some k_ ≠ (.slice Ao46 t337.length co46 : Value).ownBlock) ∧ some k_ ≠ (.slice Ao48 t344.length co48 : Value).ownBlock) ∧ some k_ ≠ (.slice Ao57 t354.length co57 : Value).ownBlock)) (n := t362.length) (c := co66) ?_).2.2; exact (by (with_reducible repeat (first | apply Kd.R_alloc | apply Kd.R_drewN | apply Kd.R_drew)); exact (Kd.R_mono (Kd.R_far (p := ⟨gb368, 2, none⟩) (Kd.R_far (p := ⟨gb368, 1, none⟩) (Kd.R_far (p := ⟨gb368, 0, none⟩) (Kd.R_types HO364.out BK368.out (by decide)) (fun _ hk => hk.2) (.int .i64 t361)) (fun _ hk => hk.2) (.slice Ao66 t362.length co66)) (fun _ hk => hk.2) (.slice Ao67 t365.length co67)) (fun _ h_ => h_.1)))); (case side6 => exact (Kd.R_reads' HO364.out).2.1); (case side7 => refine (Kd.R_reads' (e := 64) (base := w.heap.size) (ok := fun k_ => (((True ∧ some k_ ≠ (.slice Ao47 t340.length co47 : Value).ownBlock) ∧ some k_ ≠ (.slice Ao49 t347.length co49 : Value).ownBlock) ∧ some k_ ≠ (.slice Ao58 t357.length co58 : Value).ownBlock)) (n := t365.length) (c := co67) ?_).2.2; exact (by (with_reducible repeat (first | apply Kd.R_alloc | apply Kd.R_drewN | apply Kd.R_drew)); exact (Kd.R_mono (Kd.R_far (p := ⟨gb368, 2, none⟩) (Kd.R_far (p := ⟨gb368, 1, none⟩) (Kd.R_far (p := ⟨gb368, 0, none⟩) (Kd.R_types HO367.out BK368.out (by decide)) (fun _ hk => hk.2) (.int .i64 t361)) (fun _ hk => hk.2) (.slice Ao66 t362.length co66)) (fun _ hk => hk.2) (.slice Ao67 t365.length co67)) (fun _ h_ => h_.1)))); (case side8 => exact (Kd.R_reads' HO367.out).2.1); rintro e w69 ⟨v370, rfl, ho0, hb⟩; refine ⟨_, rfl, ?_⟩; replace HO339 := Aside0.mk (Kd.R_below (by (with_reducible repeat (first | apply Kd.R_alloc | apply Kd.R_drewN | apply Kd.R_drew)); exact (Kd.R_mono (Kd.R_far (p := ⟨gb368, 2, none⟩) (Kd.R_far (p := ⟨gb368, 1, none⟩) (Kd.R_far (p := ⟨gb368, 0, none⟩) (Kd.R_types HO339.out BK368.out (by decide)) (fun _ hk => hk.2) (.int .i64 t361)) (fun _ hk => hk.2) (.slice Ao66 t362.length co66)) (fun _ hk => hk.2) (.slice Ao67 t365.length co67)) (fun _ h_ => h_.1))) hb); replace HO342 := Aside0.mk (Kd.R_below (by (with_reducible repeat (first | apply Kd.R_alloc | apply Kd.R_drewN | apply Kd.R_drew)); exact (Kd.R_mono (Kd.R_far (p := ⟨gb368, 2, none⟩) (Kd.R_far (p := ⟨gb368, 1, none⟩) (Kd.R_far (p := ⟨gb368, 0, none⟩) (Kd.R_types HO342.out BK368.out (by decide)) (fun _ hk => hk.2) (.int .i64 t361)) (fun _ hk => hk.2) (.slice Ao66 t362.length co66)) (fun _ hk => hk.2) (.slice Ao67 t365.length co67)) (fun _ h_ => h_.1))) hb); replace HO346 := Aside0.mk (Kd.R_below (by (with_reducible repeat (first | apply Kd.R_alloc | apply Kd.R_drewN | apply Kd.R_drew)); exact (Kd.R_mono (Kd.R_far (p := ⟨gb368, 2, none⟩) (Kd.R_far (p := ⟨gb368, 1, none⟩) (Kd.R_far (p := ⟨gb368, 0, none⟩) (Kd.R_types HO346.out BK368.out (by decide)) (fun _ hk => hk.2) (.int .i64 t361)) (fun _ hk => hk.2) (.slice Ao66 t362.length co66)) (fun _ hk => hk.2) (.slice Ao67 t365.length co67)) (fun _ h_ => h_.1))) hb); replace HO349 := Aside0.mk (Kd.R_below (by (with_reducible repeat (first | apply Kd.R_alloc | apply Kd.R_drewN | apply Kd.R_drew)); exact (Kd.R_mono (Kd.R_far (p := ⟨gb368, 2, none⟩) (Kd.R_far (p := ⟨gb368, 1, none⟩) (Kd.R_far (p := ⟨gb368, 0, none⟩) (Kd.R_types HO349.out BK368.out (by decide)) (fun _ hk => hk.2) (.int .i64 t361)) (fun _ hk => hk.2) (.slice Ao66 t362.length co66)) (fun _ hk => hk.2) (.slice Ao67 t365.length co67)) (fun _ h_ => h_.1))) hb); replace HO356 := Aside0.mk (Kd.R_below (by (with_reducible repeat (first | apply Kd.R_alloc | apply Kd.R_drewN | apply Kd.R_drew)); exact (Kd.R_mono (Kd.R_far (p := ⟨gb368, 2, none⟩) (Kd.R_far (p := ⟨gb368, 1, none⟩) (Kd.R_far (p := ⟨gb368, 0, none⟩) (Kd.R_types HO356.out BK368.out (by decide)) (fun _ hk => hk.2) (.int .i64 t361)) (fun _ hk => hk.2) (.slice Ao66 t362.length co66)) (fun _ hk => hk.2) (.slice Ao67 t365.length co67)) (fun _ h_ => h_.1))) hb); replace HO359 := Aside0.mk (Kd.R_below (by (with_reducible repeat (first | apply Kd.R_alloc | apply Kd.R_drewN | apply Kd.R_drew)); exact (Kd.R_mono (Kd.R_far (p := ⟨gb368, 2, none⟩) (Kd.R_far (p := ⟨gb368, 1, none⟩) (Kd.R_far (p := ⟨gb368, 0, none⟩) (Kd.R_types HO359.out BK368.out (by decide)) (fun _ hk => hk.2) (.int .i64 t361)) (fun _ hk => hk.2) (.slice Ao66 t362.length co66)) (fun _ hk => hk.2) (.slice Ao67 t365.length co67)) (fun _ h_ => h_.1))) hb); replace HO364 := Aside0.mk (Kd.R_below (by (with_reducible repeat (first | apply Kd.R_alloc | apply Kd.R_drewN | apply Kd.R_drew)); exact (Kd.R_mono (Kd.R_far (p := ⟨gb368, 2, none⟩) (Kd.R_far (p := ⟨gb368, 1, none⟩) (Kd.R_far (p := ⟨gb368, 0, none⟩) (Kd.R_types HO364.out BK368.out (by decide)) (fun _ hk => hk.2) (.int .i64 t361)) (fun _ hk => hk.2) (.slice Ao66 t362.length co66)) (fun _ hk => hk.2) (.slice Ao67 t365.length co67)) (fun _ h_ => h_.1))) hb); replace HO367 := Aside0.mk (Kd.R_below (by (with_reducible repeat (first | apply Kd.R_alloc | apply Kd.R_drewN | apply Kd.R_drew)); exact (Kd.R_mono (Kd.R_far (p := ⟨gb368, 2, none⟩) (Kd.R_far (p := ⟨gb368, 1, none⟩) (Kd.R_far (p := ⟨gb368, 0, none⟩) (Kd.R_types HO367.out BK368.out (by decide)) (fun _ hk => hk.2) (.int .i64 t361)) (fun _ hk => hk.2) (.slice Ao66 t362.length co66)) (fun _ hk => hk.2) (.slice Ao67 t365.length co67)) (fun _ h_ => h_.1))) hb); obtain ⟨lo_, q1_, q2_⟩ := gh_new ho0 (Kd.S_mono (by (with_reducible repeat (first | apply Kd.S_alloc | apply Kd.S_drewN | apply Kd.S_drew)); exact (Kd.S_mono (Kd.S_far (p := ⟨gb368, 2, none⟩) (Kd.S_far (p := ⟨gb368, 1, none⟩) (Kd.S_far (p := ⟨gb368, 0, none⟩) (Kd.S_types HO352.out BK368.out (by decide)) (fun _ hk => hk.2) (.int .i64 t361)) (fun _ hk => hk.2) (.slice Ao66 t362.length co66)) (fun _ hk => hk.2) (.slice Ao67 t365.length co67)) (fun _ h_ => h_.1))) (fun _ _ => trivial)) hb (below_size (zB HB)); have HO371 := Aside0.mk q1_; replace HO352 := Aside0.mk q2_; clear q1_ q2_; replace BK332 := Aside0.mk (blk_below (g := gb332) (o := .cells #[.int .i64 a0_0, .slice A0_1 l0_1.length c0_1, .slice A0_2 l0_2.length c0_2] 25 (0, 0)) (by (with_reducible repeat (first | refine blk_drewN ?_ _ | refine blk_drew ?_ | refine blk_alloc ?_ _)); refine blk_far ?_ NB332_368.out _; (with_reducible repeat (first | refine blk_drewN ?_ _ | refine blk_drew ?_ | refine blk_alloc ?_ _)); refine blk_far ?_ NB332_368.out _; (with_reducible repeat (first | refine blk_drewN ?_ _ | refine blk_drew ?_ | refine blk_alloc ?_ _)); refine blk_far ?_ NB332_368.out _; (with_reducible repeat (first | refine blk_drewN ?_ _ | refine blk_drew ?_ | refine blk_alloc ?_ _)); exact BK332.out) hb); replace BK333 := Aside0.mk (blk_below (g := gb333) (o := .cells #[.int .i64 a1_0, .slice A1_1 l1_1.length c1_1, .slice A1_2 l1_2.length c1_2] 25 (0, 0)) (by (with_reducible repeat (first | refine blk_drewN ?_ _ | refine blk_drew ?_ | refine blk_alloc ?_ _)); refine blk_far ?_ NB333_368.out _; (with_reducible repeat (first | refine blk_drewN ?_ _ | refine blk_drew ?_ | refine blk_alloc ?_ _)); refine blk_far ?_ NB333_368.out _; (with_reducible repeat (first | refine blk_drewN ?_ _ | refine blk_drew ?_ | refine blk_alloc ?_ _)); refine blk_far ?_ NB333_368.out _; (with_reducible repeat (first | refine blk_drewN ?_ _ | refine blk_drew ?_ | refine blk_alloc ?_ _)); exact BK333.out) hb); replace BK360 := Aside0.mk (blk_below (g := gb360) (o := .cells #[.int .i64 t353, .slice Ao57 t354.length co57, .slice Ao58 t357.length co58] 31 (0, 0)) (by (with_reducible repeat (first | refine blk_drewN ?_ _ | refine blk_drew ?_ | refine blk_alloc ?_ _)); refine blk_far ?_ NB360_368.out _; (with_reducible repeat (first | refine blk_drewN ?_ _ | refine blk_drew ?_ | refine blk_alloc ?_ _)); refine blk_far ?_ NB360_368.out _; (with_reducible repeat (first | refine blk_drewN ?_ _ | refine blk_drew ?_ | refine blk_alloc ?_ _)); refine blk_far ?_ NB360_368.out _; (with_reducible repeat (first | refine blk_drewN ?_ _ | refine blk_drew ?_ | refine blk_alloc ?_ _)); exact BK360.out) hb); replace BK368 := Aside0.mk (blk_below (g := gb368) (o := .cells #[.int .i64 t361, .slice Ao66 t362.length co66, .slice Ao67 t365.length co67] 31 (0, 0)) (by (with_reducible repeat (first | refine blk_drewN ?_ _ | refine blk_drew ?_ | refine blk_alloc ?_ _)); refine blk_put (cs := #[.int .i64 t361, .slice Ao66 t362.length co66, .slice none 0 0]) ?_ 2 _ rfl; (with_reducible repeat (first | refine blk_drewN ?_ _ | refine blk_drew ?_ | refine blk_alloc ?_ _)); refine blk_put (cs := #[.int .i64 t361, .slice none 0 0, .slice none 0 0]) ?_ 1 _ rfl; (with_reducible repeat (first | refine blk_drewN ?_ _ | refine blk_drew ?_ | refine blk_alloc ?_ _)); refine blk_put (cs := #[.int .i64 0, .slice none 0 0, .slice none 0 0]) ?_ 0 _ rfl; (with_reducible repeat (first | refine blk_drewN ?_ _ | refine blk_drew ?_ | refine blk_alloc ?_ _)); exact BK368.out) hb); replace HB := bS HB hb; (try clear hb); (try clear ho0); obtain ⟨Ao70, co70, eo70⟩ := Kd.S_slice HO371.out; subst eo70; obtain ⟨Ao71, co71, eo71⟩ := Kd.S_slice HO352.out; subst eo71) | ((with_reducible refine gate_callee (f := 13) rfl ?_); refine goesL_ (some 38) rfl rfl Try.func13 (by kernel_rfl) rfl #[.slice Ao70 t369.length co70, .slice Ao71 t350.length co71] rfl zG ?_; (with_reducible refine (laws_eqIntSS.calls k _ _ t369 _ _ t350 true _ ?side1 ?side2 ?side3 ?side4 A25.out).mono ?_); (case side1 => repeat (first | exact (Kd.S_reads' HO371.out).2.2 | (with_reducible refine Kd.C_alloc ?_ _) | (with_reducible refine Kd.C_drewN ?_ _) | (with_reducible refine Kd.C_drew ?_))); (case side2 => exact (Kd.S_reads' HO371.out).2.1); (case side3 => repeat (first | exact (Kd.S_reads' HO352.out).2.2 | (with_reducible refine Kd.C_alloc ?_ _) | (with_reducible refine Kd.C_drewN ?_ _) | (with_reducible refine Kd.C_drew ?_))); (case side4 => exact (Kd.S_reads' HO352.out).2.1); rintro e w' ⟨rfl, ⟨nd, rfl⟩⟩; refine ⟨_, rfl, ?_⟩))
      (try (rw [drewN_self w69]; generalize hq_ : World.drewN w69 _ = w69; have n0_ : Aside0 (Kd.R Kd.bool 4 w69 w.heap.size (fun k_ => some k_ ≠ (.slice Ao48 t344.length co48 : Value).ownBlock ∧ some k_ ≠ (.slice Ao57 t354.length co57 : Value).ownBlock ∧ some k_ ≠ (.slice Ao66 t362.length co66 : Value).ownBlock) (.slice Ao46 t337.length co46) t337) := ⟨by rw [← hq_]; exact (by (with_reducible repeat (first | apply Kd.R_alloc | apply Kd.R_drewN | apply Kd.R_drew)); exact Kd.R_mono HO339.out (fun _ hk => ⟨hk.1.1.2, ⟨hk.1.2, hk.2⟩⟩))⟩; have n1_ : Aside0 (Kd.R k64 64 w69 w.heap.size (fun k_ => some k_ ≠ (.slice Ao49 t347.length co49 : Value).ownBlock ∧ some k_ ≠ (.slice Ao58 t357.length co58 : Value).ownBlock ∧ some k_ ≠ (.slice Ao67 t365.length co67 : Value).ownBlock) (.slice Ao47 t340.length co47) t340) := ⟨by rw [← hq_]; exact (by (with_reducible repeat (first | apply Kd.R_alloc | apply Kd.R_drewN | apply Kd.R_drew)); exact Kd.R_mono HO342.out (fun _ hk => ⟨hk.1.1.2, ⟨hk.1.2, hk.2⟩⟩))⟩; have n2_ : Aside0 (Kd.R Kd.bool 4 w69 w.heap.size (fun k_ => some k_ ≠ (.slice Ao46 t337.length co46 : Value).ownBlock ∧ some k_ ≠ (.slice Ao57 t354.length co57 : Value).ownBlock ∧ some k_ ≠ (.slice Ao66 t362.length co66 : Value).ownBlock) (.slice Ao48 t344.length co48) t344) := ⟨by rw [← hq_]; exact (by (with_reducible repeat (first | apply Kd.R_alloc | apply Kd.R_drewN | apply Kd.R_drew)); exact Kd.R_mono HO346.out (fun _ hk => ⟨hk.1.1.2, ⟨hk.1.2, hk.2⟩⟩))⟩; have n3_ : Aside0 (Kd.R k64 64 w69 w.heap.size (fun k_ => some k_ ≠ (.slice Ao47 t340.length co47 : Value).ownBlock ∧ some k_ ≠ (.slice Ao58 t357.length co58 : Value).ownBlock ∧ some k_ ≠ (.slice Ao67 t365.length co67 : Value).ownBlock) (.slice Ao49 t347.length co49) t347) := ⟨by rw [← hq_]; exact (by (with_reducible repeat (first | apply Kd.R_alloc | apply Kd.R_drewN | apply Kd.R_drew)); exact Kd.R_mono HO349.out (fun _ hk => ⟨hk.1.1.2, ⟨hk.1.2, hk.2⟩⟩))⟩; have n4_ : Aside0 (Kd.S (Kd.slice 3 (Kd.int .i64)) 38 w69 w.heap.size (fun k_ => k_ < lo_) (.slice Ao71 t350.length co71) t350) := ⟨by rw [← hq_]; exact (by (with_reducible repeat (first | apply Kd.S_alloc | apply Kd.S_drewN | apply Kd.S_drew)); exact HO352.out)⟩; have n5_ : Aside0 (Kd.R Kd.bool 4 w69 w.heap.size (fun k_ => some k_ ≠ (.slice Ao46 t337.length co46 : Value).ownBlock ∧ some k_ ≠ (.slice Ao48 t344.length co48 : Value).ownBlock ∧ some k_ ≠ (.slice Ao66 t362.length co66 : Value).ownBlock) (.slice Ao57 t354.length co57) t354) := ⟨by rw [← hq_]; exact (by (with_reducible repeat (first | apply Kd.R_alloc | apply Kd.R_drewN | apply Kd.R_drew)); exact Kd.R_mono HO356.out (fun _ hk => ⟨hk.1.1.2, ⟨hk.1.2, hk.2⟩⟩))⟩; have n6_ : Aside0 (Kd.R k64 64 w69 w.heap.size (fun k_ => some k_ ≠ (.slice Ao47 t340.length co47 : Value).ownBlock ∧ some k_ ≠ (.slice Ao49 t347.length co49 : Value).ownBlock ∧ some k_ ≠ (.slice Ao67 t365.length co67 : Value).ownBlock) (.slice Ao58 t357.length co58) t357) := ⟨by rw [← hq_]; exact (by (with_reducible repeat (first | apply Kd.R_alloc | apply Kd.R_drewN | apply Kd.R_drew)); exact Kd.R_mono HO359.out (fun _ hk => ⟨hk.1.1.2, ⟨hk.1.2, hk.2⟩⟩))⟩; have n7_ : Aside0 (Kd.R Kd.bool 4 w69 w.heap.size (fun k_ => some k_ ≠ (.slice Ao46 t337.length co46 : Value).ownBlock ∧ some k_ ≠ (.slice Ao48 t344.length co48 : Value).ownBlock ∧ some k_ ≠ (.slice Ao57 t354.length co57 : Value).ownBlock) (.slice Ao66 t362.length co66) t362) := ⟨by rw [← hq_]; exact (by (with_reducible repeat (first | apply Kd.R_alloc | apply Kd.R_drewN | apply Kd.R_drew)); exact Kd.R_mono HO364.out (fun _ hk => ⟨hk.1.1.2, ⟨hk.1.2, hk.2⟩⟩))⟩; have n8_ : Aside0 (Kd.R k64 64 w69 w.heap.size (fun k_ => some k_ ≠ (.slice Ao47 t340.length co47 : Value).ownBlock ∧ some k_ ≠ (.slice Ao49 t347.length co49 : Value).ownBlock ∧ some k_ ≠ (.slice Ao58 t357.length co58 : Value).ownBlock) (.slice Ao67 t365.length co67) t365) := ⟨by rw [← hq_]; exact (by (with_reducible repeat (first | apply Kd.R_alloc | apply Kd.R_drewN | apply Kd.R_drew)); exact Kd.R_mono HO367.out (fun _ hk => ⟨hk.1.1.2, ⟨hk.1.2, hk.2⟩⟩))⟩; have n9_ : Aside0 (Kd.S (Kd.slice 3 (Kd.int .i64)) 38 w69 w.heap.size (fun k_ => lo_ ≤ k_) (.slice Ao70 t369.length co70) t369) := ⟨by rw [← hq_]; exact (by (with_reducible repeat (first | apply Kd.S_alloc | apply Kd.S_drewN | apply Kd.S_drew)); exact HO371.out)⟩; have n10_ : Aside0 (w69.heap[gb332]? = some (.cells #[.int .i64 a0_0, .slice A0_1 l0_1.length c0_1, .slice A0_2 l0_2.length c0_2] 25 (0, 0))) := ⟨by rw [← hq_]; exact (zK BK332)⟩; have n11_ : Aside0 (w69.heap[gb333]? = some (.cells #[.int .i64 a1_0, .slice A1_1 l1_1.length c1_1, .slice A1_2 l1_2.length c1_2] 25 (0, 0))) := ⟨by rw [← hq_]; exact (zK BK333)⟩; have n12_ : Aside0 (w69.heap[gb360]? = some (.cells #[.int .i64 t353, .slice Ao57 t354.length co57, .slice Ao58 t357.length co58] 31 (0, 0))) := ⟨by rw [← hq_]; exact (zK BK360)⟩; have n13_ : Aside0 (w69.heap[gb368]? = some (.cells #[.int .i64 t361, .slice Ao66 t362.length co66, .slice Ao67 t365.length co67] 31 (0, 0))) := ⟨by rw [← hq_]; exact (zK BK368)⟩; have n14_ : Aside0 (Below w.heap.size w w69) := ⟨by rw [← hq_]; exact (zB HB)⟩; clear HO339 HO342 HO346 HO349 HO352 HO356 HO359 HO364 HO367 HO371 BK332 BK333 BK360 BK368 HB hq_; have HO339 := n0_; have HO342 := n1_; have HO346 := n2_; have HO349 := n3_; have HO352 := n4_; have HO356 := n5_; have HO359 := n6_; have HO364 := n7_; have HO367 := n8_; have HO371 := n9_; have BK332 := n10_; have BK333 := n11_; have BK360 := n12_; have BK368 := n13_; have HB := n14_; clear n0_ n1_ n2_ n3_ n4_ n5_ n6_ n7_ n8_ n9_ n10_ n11_ n12_ n13_ n14_; have hcw332_0 : w69.cell? ⟨gb332, 0, none⟩ = some (.int .i64 a0_0) := bc0 BK332; have hfw332_0 := bf BK332 0; have hcw332_1 : w69.cell? ⟨gb332, 1, none⟩ = some (.slice A0_1 l0_1.length c0_1) := bc1 BK332; have hfw332_1 := bf BK332 1; have hcw332_2 : w69.cell? ⟨gb332, 2, none⟩ = some (.slice A0_2 l0_2.length c0_2) := bc2 BK332; have hfw332_2 := bf BK332 2; have hcw333_0 : w69.cell? ⟨gb333, 0, none⟩ = some (.int .i64 a1_0) := bc0 BK333; have hfw333_0 := bf BK333 0; have hcw333_1 : w69.cell? ⟨gb333, 1, none⟩ = some (.slice A1_1 l1_1.length c1_1) := bc1 BK333; have hfw333_1 := bf BK333 1; have hcw333_2 : w69.cell? ⟨gb333, 2, none⟩ = some (.slice A1_2 l1_2.length c1_2) := bc2 BK333; have hfw333_2 := bf BK333 2; have hcw360_0 : w69.cell? ⟨gb360, 0, none⟩ = some (.int .i64 t353) := bc0 BK360; have hfw360_0 := bf BK360 0; have hcw360_1 : w69.cell? ⟨gb360, 1, none⟩ = some (.slice Ao57 t354.length co57) := bc1 BK360; have hfw360_1 := bf BK360 1; have hcw360_2 : w69.cell? ⟨gb360, 2, none⟩ = some (.slice Ao58 t357.length co58) := bc2 BK360; have hfw360_2 := bf BK360 2; have hcw368_0 : w69.cell? ⟨gb368, 0, none⟩ = some (.int .i64 t361) := bc0 BK368; have hfw368_0 := bf BK368 0; have hcw368_1 : w69.cell? ⟨gb368, 1, none⟩ = some (.slice Ao66 t362.length co66) := bc1 BK368; have hfw368_1 := bf BK368 1; have hcw368_2 : w69.cell? ⟨gb368, 2, none⟩ = some (.slice Ao67 t365.length co67) := bc2 BK368; have hfw368_2 := bf BK368 2))
      try (obtain ⟨wn_, hwn_⟩ : ∃ x_ : World, x_ = w69.drewN nd := ⟨_, rfl⟩; rw [← hwn_]; have hq_ := Kd.R_drewN HO339.out nd; rw [← hwn_] at hq_; replace HO339 := Aside0.mk hq_; clear hq_; have hq_ := Kd.R_drewN HO342.out nd; rw [← hwn_] at hq_; replace HO342 := Aside0.mk hq_; clear hq_; have hq_ := Kd.R_drewN HO346.out nd; rw [← hwn_] at hq_; replace HO346 := Aside0.mk hq_; clear hq_; have hq_ := Kd.R_drewN HO349.out nd; rw [← hwn_] at hq_; replace HO349 := Aside0.mk hq_; clear hq_; have hq_ := Kd.S_drewN HO352.out nd; rw [← hwn_] at hq_; replace HO352 := Aside0.mk hq_; clear hq_; have hq_ := Kd.R_drewN HO356.out nd; rw [← hwn_] at hq_; replace HO356 := Aside0.mk hq_; clear hq_; have hq_ := Kd.R_drewN HO359.out nd; rw [← hwn_] at hq_; replace HO359 := Aside0.mk hq_; clear hq_; have hq_ := Kd.R_drewN HO364.out nd; rw [← hwn_] at hq_; replace HO364 := Aside0.mk hq_; clear hq_; have hq_ := Kd.R_drewN HO367.out nd; rw [← hwn_] at hq_; replace HO367 := Aside0.mk hq_; clear hq_; have hq_ := Kd.S_drewN HO371.out nd; rw [← hwn_] at hq_; replace HO371 := Aside0.mk hq_; clear hq_; have hq_ := blk_drewN BK332.out nd; rw [← hwn_] at hq_; replace BK332 := Aside0.mk hq_; clear hq_; have hq_ := blk_drewN BK333.out nd; rw [← hwn_] at hq_; replace BK333 := Aside0.mk hq_; clear hq_; have hq_ := blk_drewN BK360.out nd; rw [← hwn_] at hq_; replace BK360 := Aside0.mk hq_; clear hq_; have hq_ := blk_drewN BK368.out nd; rw [← hwn_] at hq_; replace BK368 := Aside0.mk hq_; clear hq_; have hq_ := pw_below_drewN HB.out nd; rw [← hwn_] at hq_; replace HB := Aside0.mk hq_; clear hq_; clear hwn_)
      replace HO339 := Aside0.mk (Kd.R_drew HO339.out)
      replace HO342 := Aside0.mk (Kd.R_drew HO342.out)
      replace HO346 := Aside0.mk (Kd.R_drew HO346.out)
      replace HO349 := Aside0.mk (Kd.R_drew HO349.out)
      replace HO352 := Aside0.mk (Kd.S_drew HO352.out)
      replace HO356 := Aside0.mk (Kd.R_drew HO356.out)
      replace HO359 := Aside0.mk (Kd.R_drew HO359.out)
      replace HO364 := Aside0.mk (Kd.R_drew HO364.out)
      replace HO367 := Aside0.mk (Kd.R_drew HO367.out)
      replace HO371 := Aside0.mk (Kd.S_drew HO371.out)
      replace BK332 := Aside0.mk (blk_drew BK332.out)
      replace BK333 := Aside0.mk (blk_drew BK333.out)
      replace BK360 := Aside0.mk (blk_drew BK360.out)
      replace BK368 := Aside0.mk (blk_drew BK368.out)
      replace HB := Aside0.mk (below_drew1 HB.out)
      refine start_ (n := 5) (S := fun w' => w'.cell? ⟨gb360, 0, none⟩ = some (.int .i64 t353) ∧ w'.cell? ⟨gb360, 1, none⟩ = some (.slice Ao57 t354.length co57) ∧ w'.cell? ⟨gb360, 2, none⟩ = some (.slice Ao58 t357.length co58) ∧ w'.cell? ⟨gb332, 0, none⟩ = some (.int .i64 a0_0) ∧ w'.cell? ⟨gb332, 1, none⟩ = some (.slice A0_1 l0_1.length c0_1) ∧ w'.cell? ⟨gb332, 2, none⟩ = some (.slice A0_2 l0_2.length c0_2)) (ds := []) #[false, false, false, false, false] (by kernel_rfl) rfl rfl ⟨bc0 BK360, bc1 BK360, bc2 BK360, bc0 BK332, bc1 BK332, bc2 BK332⟩ (fun hHeld => ?_)
      first | (generalize wn_.drew = w72 at HO339 HO342 HO346 HO349 HO352 HO356 HO359 HO364 HO367 HO371 BK332 BK333 BK360 BK368 HB hHeld ⊢) | (generalize w69.drew = w72 at HO339 HO342 HO346 HO349 HO352 HO356 HO359 HO364 HO367 HO371 BK332 BK333 BK360 BK368 HB hHeld ⊢)
      refine take_ (i := 0) (N := some 40) (v := ?_) (a' := ?_) #[true, false, false, false, false] rfl rfl (by kernel_rfl) (fun _ _ _ h => h) (Or.inl ⟨by rfl, ?_⟩) hHeld ?_ ?_
      rotate_left
      ·rintro w' ⟨s0, s1, s2, s3, s4, s5⟩
       go_simp
       with_reducible rfl
      rotate_left
      ·simp only [Act.put, List.setIfInBounds_toArray, List.set_cons_zero, List.set_cons_succ, i64_w, i32_w]
       rfl
      refine take_ (i := 1) (N := some 41) (v := ?_) (a' := ?_) #[true, true, false, false, false] rfl rfl (by kernel_rfl) (fun _ _ _ h => h) (Or.inl ⟨by rfl, ?_⟩) hHeld ?_ ?_
      rotate_left
      ·rintro w' ⟨s0, s1, s2, s3, s4, s5⟩
       go_simp
       with_reducible rfl
      rotate_left
      ·simp only [Act.put, List.setIfInBounds_toArray, List.set_cons_zero, List.set_cons_succ, i64_w, i32_w]
       rfl
      refine one_ (i := 2) (N := some 42) #[true, true, true, false, false] rfl rfl (by kernel_rfl) (by decide) (fun K hK => ?_)
      refine goes_ Try.func11 (by kernel_rfl) rfl #[.agg #[.int .i64 a0_0, .slice A0_1 l0_1.length c0_1, .slice A0_2 l0_2.length c0_2]] (by rfl) rfl rfl zG ?_
      with_reducible refine (laws_toMachine.calls k a0_0 _ _ l0_1 _ _ l0_2 t373 t374 t377 _ ?side1 ?side2 ?side3 ?side4 A27.out).mono ?_
      (case side1 => exact cS HR0_1 HB)
      (case side2 => exact HC0_1.out)
      (case side3 => exact cS HR0_2 HB)
      (case side4 => exact HC0_2.out)
      rintro e w73 ⟨v375, v378, rfl, ho0, ho1, hb⟩
      refine ⟨_, rfl, ?_⟩
      replace HO352 := Aside0.mk (Kd.S_below (zS HO352) hb)
      replace HO371 := Aside0.mk (Kd.S_below (zS HO371) hb)
      have HO376 := Aside0.mk (Kd.R_lower (Kd.R_new' (Kd.R_new' (Kd.R_new' (Kd.R_new' ho0 (Kd.R_lt (zR HO339))) (Kd.R_lt (zR HO346))) (Kd.R_lt (zR HO356))) (Kd.R_lt (zR HO364))) (below_size (zB HB)))
      replace HO339 := Aside0.mk (Kd.R_elder' (zR HO339) (Kd.R_base ho0) hb)
      replace HO346 := Aside0.mk (Kd.R_elder' (zR HO346) (Kd.R_base ho0) hb)
      replace HO356 := Aside0.mk (Kd.R_elder' (zR HO356) (Kd.R_base ho0) hb)
      replace HO364 := Aside0.mk (Kd.R_elder' (zR HO364) (Kd.R_base ho0) hb)
      have HO379 := Aside0.mk (Kd.R_lower (Kd.R_new' (Kd.R_new' (Kd.R_new' (Kd.R_new' ho1 (Kd.R_lt (zR HO342))) (Kd.R_lt (zR HO349))) (Kd.R_lt (zR HO359))) (Kd.R_lt (zR HO367))) (below_size (zB HB)))
      replace HO342 := Aside0.mk (Kd.R_elder' (zR HO342) (Kd.R_base ho1) hb)
      replace HO349 := Aside0.mk (Kd.R_elder' (zR HO349) (Kd.R_base ho1) hb)
      replace HO359 := Aside0.mk (Kd.R_elder' (zR HO359) (Kd.R_base ho1) hb)
      replace HO367 := Aside0.mk (Kd.R_elder' (zR HO367) (Kd.R_base ho1) hb)
      replace BK332 := kB BK332 hb
      replace BK333 := kB BK333 hb
      replace BK360 := kB BK360 hb
      replace BK368 := kB BK368 hb
      replace HB := bS HB hb
      (try clear hb)
      (try clear hb2)
      (try clear hk)
      (try clear hi)
      (try clear ho0)
      (try clear ho1)
      obtain ⟨Ao74, co74, eo74⟩ := Kd.R_slice HO376.out
      (first | subst eo74 | (injection eo74 with f1_ f2_ f3_; have f4_ := f1_.symm; have f5_ := f3_.symm; clear f1_ f2_ f3_; subst f4_; subst f5_))
      obtain ⟨Ao75, co75, eo75⟩ := Kd.R_slice HO379.out
      (first | subst eo75 | (injection eo75 with f1_ f2_ f3_; have f4_ := f1_.symm; have f5_ := f3_.symm; clear f1_ f2_ f3_; subst f4_; subst f5_))
      refine hK.out _ _ ⟨bc0 BK360, bc1 BK360, bc2 BK360, bc0 BK332, bc1 BK332, bc2 BK332⟩ (fun hHeld => ?_)
      clear hK K
      refine norm_ (a' := ?_) ?_ ?_
      rotate_left
      ·show Act.put _ (some 42) _ = _
       simp only [Act.put, List.setIfInBounds_toArray, List.set_cons_zero, List.set_cons_succ, i64_w, i32_w]
       rfl
      refine one_ (i := 3) (N := some 43) #[true, true, true, true, false] rfl rfl (by kernel_rfl) (by decide) (fun K hK => ?_)
      refine goes_ Try.func14 (by kernel_rfl) rfl #[.agg #[.int .i64 t353, .slice Ao57 t354.length co57, .slice Ao58 t357.length co58], .agg #[.int .i64 t373, .slice Ao74 t374.length co74, .slice Ao75 t377.length co75]] (by rfl) rfl rfl zG ?_
      with_reducible refine (laws_eqMachine.calls k t353 _ _ t354 _ _ t357 t373 _ _ t374 _ _ t377 true _ ?side1 ?side2 ?side3 ?side4 ?side5 ?side6 ?side7 ?side8 A28.out).mono ?_
      (case side1 => repeat (first | exact (Kd.R_reads' HO356.out).2.2 | (with_reducible refine Kd.C_alloc ?_ _) | (with_reducible refine Kd.C_drewN ?_ _) | (with_reducible refine Kd.C_drew ?_)))
      (case side2 => exact (Kd.R_reads' HO356.out).2.1)
      (case side3 => repeat (first | exact (Kd.R_reads' HO359.out).2.2 | (with_reducible refine Kd.C_alloc ?_ _) | (with_reducible refine Kd.C_drewN ?_ _) | (with_reducible refine Kd.C_drew ?_)))
      (case side4 => exact (Kd.R_reads' HO359.out).2.1)
      (case side5 => repeat (first | exact (Kd.R_reads' HO376.out).2.2 | (with_reducible refine Kd.C_alloc ?_ _) | (with_reducible refine Kd.C_drewN ?_ _) | (with_reducible refine Kd.C_drew ?_)))
      (case side6 => exact (Kd.R_reads' HO376.out).2.1)
      (case side7 => repeat (first | exact (Kd.R_reads' HO379.out).2.2 | (with_reducible refine Kd.C_alloc ?_ _) | (with_reducible refine Kd.C_drewN ?_ _) | (with_reducible refine Kd.C_drew ?_)))
      (case side8 => exact (Kd.R_reads' HO379.out).2.1)
      rintro e w76 ⟨rfl, hb⟩
      refine ⟨_, rfl, ?_⟩
      replace HO339 := Aside0.mk (Kd.R_below (zR HO339) hb)
      replace HO342 := Aside0.mk (Kd.R_below (zR HO342) hb)
      replace HO346 := Aside0.mk (Kd.R_below (zR HO346) hb)
      replace HO349 := Aside0.mk (Kd.R_below (zR HO349) hb)
      replace HO352 := Aside0.mk (Kd.S_below (zS HO352) hb)
      replace HO356 := Aside0.mk (Kd.R_below (zR HO356) hb)
      replace HO359 := Aside0.mk (Kd.R_below (zR HO359) hb)
      replace HO364 := Aside0.mk (Kd.R_below (zR HO364) hb)
      replace HO367 := Aside0.mk (Kd.R_below (zR HO367) hb)
      replace HO371 := Aside0.mk (Kd.S_below (zS HO371) hb)
      replace HO376 := Aside0.mk (Kd.R_below (zR HO376) hb)
      replace HO379 := Aside0.mk (Kd.R_below (zR HO379) hb)
      replace BK332 := kB BK332 hb
      replace BK333 := kB BK333 hb
      replace BK360 := kB BK360 hb
      replace BK368 := kB BK368 hb
      replace HB := bS HB hb
      (try clear hb)
      (try clear hb2)
      (try clear hk)
      (try clear hi)
      refine hK.out _ _ ⟨bc0 BK360, bc1 BK360, bc2 BK360, bc0 BK332, bc1 BK332, bc2 BK332⟩ (fun hHeld => ?_)
      clear hK K
      refine norm_ (a' := ?_) ?_ ?_
      rotate_left
      ·show Act.put _ (some 43) _ = _
       simp only [Act.put, List.setIfInBounds_toArray, List.set_cons_zero, List.set_cons_succ, i64_w, i32_w]
       rfl
      refine pure_ (i := 4) (N := some 44) (v := ?_) (a' := ?_) #[true, true, true, true, true] rfl rfl (by kernel_rfl) (fun _ _ _ h => h) (Or.inl ⟨by rfl, ?_⟩) ?_ ?_
      rotate_left
      ·intro w'
       go_simp
       with_reducible rfl
      rotate_left
      ·simp only [Act.put, List.setIfInBounds_toArray, List.set_cons_zero, List.set_cons_succ, i64_w, i32_w]
       rfl
      refine done_ (by kernel_rfl) ?_
      try clear hHeld
      try go_wp2
      replace HO339 := Aside0.mk (Kd.R_drew HO339.out)
      replace HO342 := Aside0.mk (Kd.R_drew HO342.out)
      replace HO346 := Aside0.mk (Kd.R_drew HO346.out)
      replace HO349 := Aside0.mk (Kd.R_drew HO349.out)
      replace HO352 := Aside0.mk (Kd.S_drew HO352.out)
      replace HO356 := Aside0.mk (Kd.R_drew HO356.out)
      replace HO359 := Aside0.mk (Kd.R_drew HO359.out)
      replace HO364 := Aside0.mk (Kd.R_drew HO364.out)
      replace HO367 := Aside0.mk (Kd.R_drew HO367.out)
      replace HO371 := Aside0.mk (Kd.S_drew HO371.out)
      replace HO376 := Aside0.mk (Kd.R_drew HO376.out)
      replace HO379 := Aside0.mk (Kd.R_drew HO379.out)
      replace BK332 := Aside0.mk (blk_drew BK332.out)
      replace BK333 := Aside0.mk (blk_drew BK333.out)
      replace BK360 := Aside0.mk (blk_drew BK360.out)
      replace BK368 := Aside0.mk (blk_drew BK368.out)
      replace HB := Aside0.mk (below_drew1 HB.out)
      refine start_ (n := 5) (S := fun w' => w'.cell? ⟨gb368, 0, none⟩ = some (.int .i64 t361) ∧ w'.cell? ⟨gb368, 1, none⟩ = some (.slice Ao66 t362.length co66) ∧ w'.cell? ⟨gb368, 2, none⟩ = some (.slice Ao67 t365.length co67) ∧ w'.cell? ⟨gb333, 0, none⟩ = some (.int .i64 a1_0) ∧ w'.cell? ⟨gb333, 1, none⟩ = some (.slice A1_1 l1_1.length c1_1) ∧ w'.cell? ⟨gb333, 2, none⟩ = some (.slice A1_2 l1_2.length c1_2)) (ds := []) #[false, false, false, false, false] (by kernel_rfl) rfl rfl ⟨bc0 BK368, bc1 BK368, bc2 BK368, bc0 BK333, bc1 BK333, bc2 BK333⟩ (fun hHeld => ?_)
      generalize w76.drew = w77 at HO339 HO342 HO346 HO349 HO352 HO356 HO359 HO364 HO367 HO371 HO376 HO379 BK332 BK333 BK360 BK368 HB hHeld ⊢
      refine take_ (i := 0) (N := some 45) (v := ?_) (a' := ?_) #[true, false, false, false, false] rfl rfl (by kernel_rfl) (fun _ _ _ h => h) (Or.inl ⟨by rfl, ?_⟩) hHeld ?_ ?_
      rotate_left
      ·rintro w' ⟨s0, s1, s2, s3, s4, s5⟩
       go_simp
       with_reducible rfl
      rotate_left
      ·simp only [Act.put, List.setIfInBounds_toArray, List.set_cons_zero, List.set_cons_succ, i64_w, i32_w]
       rfl
      refine take_ (i := 1) (N := some 46) (v := ?_) (a' := ?_) #[true, true, false, false, false] rfl rfl (by kernel_rfl) (fun _ _ _ h => h) (Or.inl ⟨by rfl, ?_⟩) hHeld ?_ ?_
      rotate_left
      ·rintro w' ⟨s0, s1, s2, s3, s4, s5⟩
       go_simp
       with_reducible rfl
      rotate_left
      ·simp only [Act.put, List.setIfInBounds_toArray, List.set_cons_zero, List.set_cons_succ, i64_w, i32_w]
       rfl
      refine one_ (i := 2) (N := some 47) #[true, true, true, false, false] rfl rfl (by kernel_rfl) (by decide) (fun K hK => ?_)
      refine goes_ Try.func11 (by kernel_rfl) rfl #[.agg #[.int .i64 a1_0, .slice A1_1 l1_1.length c1_1, .slice A1_2 l1_2.length c1_2]] (by rfl) rfl rfl zG ?_
      with_reducible refine (laws_toMachine.calls k a1_0 _ _ l1_1 _ _ l1_2 t381 t382 t385 _ ?side1 ?side2 ?side3 ?side4 A30.out).mono ?_
      (case side1 => exact cS HR1_1 HB)
      (case side2 => exact HC1_1.out)
      (case side3 => exact cS HR1_2 HB)
      (case side4 => exact HC1_2.out)
      rintro e w78 ⟨v383, v386, rfl, ho0, ho1, hb⟩
      refine ⟨_, rfl, ?_⟩
      replace HO352 := Aside0.mk (Kd.S_below (zS HO352) hb)
      replace HO371 := Aside0.mk (Kd.S_below (zS HO371) hb)
      have HO384 := Aside0.mk (Kd.R_lower (Kd.R_new' (Kd.R_new' (Kd.R_new' (Kd.R_new' (Kd.R_new' ho0 (Kd.R_lt (zR HO339))) (Kd.R_lt (zR HO346))) (Kd.R_lt (zR HO356))) (Kd.R_lt (zR HO364))) (Kd.R_lt (zR HO376))) (below_size (zB HB)))
      replace HO339 := Aside0.mk (Kd.R_elder' (zR HO339) (Kd.R_base ho0) hb)
      replace HO346 := Aside0.mk (Kd.R_elder' (zR HO346) (Kd.R_base ho0) hb)
      replace HO356 := Aside0.mk (Kd.R_elder' (zR HO356) (Kd.R_base ho0) hb)
      replace HO364 := Aside0.mk (Kd.R_elder' (zR HO364) (Kd.R_base ho0) hb)
      replace HO376 := Aside0.mk (Kd.R_elder' (zR HO376) (Kd.R_base ho0) hb)
      have HO387 := Aside0.mk (Kd.R_lower (Kd.R_new' (Kd.R_new' (Kd.R_new' (Kd.R_new' (Kd.R_new' ho1 (Kd.R_lt (zR HO342))) (Kd.R_lt (zR HO349))) (Kd.R_lt (zR HO359))) (Kd.R_lt (zR HO367))) (Kd.R_lt (zR HO379))) (below_size (zB HB)))
      replace HO342 := Aside0.mk (Kd.R_elder' (zR HO342) (Kd.R_base ho1) hb)
      replace HO349 := Aside0.mk (Kd.R_elder' (zR HO349) (Kd.R_base ho1) hb)
      replace HO359 := Aside0.mk (Kd.R_elder' (zR HO359) (Kd.R_base ho1) hb)
      replace HO367 := Aside0.mk (Kd.R_elder' (zR HO367) (Kd.R_base ho1) hb)
      replace HO379 := Aside0.mk (Kd.R_elder' (zR HO379) (Kd.R_base ho1) hb)
      replace BK332 := kB BK332 hb
      replace BK333 := kB BK333 hb
      replace BK360 := kB BK360 hb
      replace BK368 := kB BK368 hb
      replace HB := bS HB hb
      (try clear hb)
      (try clear hb2)
      (try clear hk)
      (try clear hi)
      (try clear ho0)
      (try clear ho1)
      obtain ⟨Ao79, co79, eo79⟩ := Kd.R_slice HO384.out
      (first | subst eo79 | (injection eo79 with f1_ f2_ f3_; have f4_ := f1_.symm; have f5_ := f3_.symm; clear f1_ f2_ f3_; subst f4_; subst f5_))
      obtain ⟨Ao80, co80, eo80⟩ := Kd.R_slice HO387.out
      (first | subst eo80 | (injection eo80 with f1_ f2_ f3_; have f4_ := f1_.symm; have f5_ := f3_.symm; clear f1_ f2_ f3_; subst f4_; subst f5_))
      refine hK.out _ _ ⟨bc0 BK368, bc1 BK368, bc2 BK368, bc0 BK333, bc1 BK333, bc2 BK333⟩ (fun hHeld => ?_)
      clear hK K
      refine norm_ (a' := ?_) ?_ ?_
      rotate_left
      ·show Act.put _ (some 47) _ = _
       simp only [Act.put, List.setIfInBounds_toArray, List.set_cons_zero, List.set_cons_succ, i64_w, i32_w]
       rfl
      refine one_ (i := 3) (N := some 48) #[true, true, true, true, false] rfl rfl (by kernel_rfl) (by decide) (fun K hK => ?_)
      refine goes_ Try.func14 (by kernel_rfl) rfl #[.agg #[.int .i64 t361, .slice Ao66 t362.length co66, .slice Ao67 t365.length co67], .agg #[.int .i64 t381, .slice Ao79 t382.length co79, .slice Ao80 t385.length co80]] (by rfl) rfl rfl zG ?_
      with_reducible refine (laws_eqMachine.calls k t361 _ _ t362 _ _ t365 t381 _ _ t382 _ _ t385 true _ ?side1 ?side2 ?side3 ?side4 ?side5 ?side6 ?side7 ?side8 A31.out).mono ?_
      (case side1 => repeat (first | exact (Kd.R_reads' HO364.out).2.2 | (with_reducible refine Kd.C_alloc ?_ _) | (with_reducible refine Kd.C_drewN ?_ _) | (with_reducible refine Kd.C_drew ?_)))
      (case side2 => exact (Kd.R_reads' HO364.out).2.1)
      (case side3 => repeat (first | exact (Kd.R_reads' HO367.out).2.2 | (with_reducible refine Kd.C_alloc ?_ _) | (with_reducible refine Kd.C_drewN ?_ _) | (with_reducible refine Kd.C_drew ?_)))
      (case side4 => exact (Kd.R_reads' HO367.out).2.1)
      (case side5 => repeat (first | exact (Kd.R_reads' HO384.out).2.2 | (with_reducible refine Kd.C_alloc ?_ _) | (with_reducible refine Kd.C_drewN ?_ _) | (with_reducible refine Kd.C_drew ?_)))
      (case side6 => exact (Kd.R_reads' HO384.out).2.1)
      (case side7 => repeat (first | exact (Kd.R_reads' HO387.out).2.2 | (with_reducible refine Kd.C_alloc ?_ _) | (with_reducible refine Kd.C_drewN ?_ _) | (with_reducible refine Kd.C_drew ?_)))
      (case side8 => exact (Kd.R_reads' HO387.out).2.1)
      rintro e w81 ⟨rfl, hb⟩
      refine ⟨_, rfl, ?_⟩
      replace HO339 := Aside0.mk (Kd.R_below (zR HO339) hb)
      replace HO342 := Aside0.mk (Kd.R_below (zR HO342) hb)
      replace HO346 := Aside0.mk (Kd.R_below (zR HO346) hb)
      replace HO349 := Aside0.mk (Kd.R_below (zR HO349) hb)
      replace HO352 := Aside0.mk (Kd.S_below (zS HO352) hb)
      replace HO356 := Aside0.mk (Kd.R_below (zR HO356) hb)
      replace HO359 := Aside0.mk (Kd.R_below (zR HO359) hb)
      replace HO364 := Aside0.mk (Kd.R_below (zR HO364) hb)
      replace HO367 := Aside0.mk (Kd.R_below (zR HO367) hb)
      replace HO371 := Aside0.mk (Kd.S_below (zS HO371) hb)
      replace HO376 := Aside0.mk (Kd.R_below (zR HO376) hb)
      replace HO379 := Aside0.mk (Kd.R_below (zR HO379) hb)
      replace HO384 := Aside0.mk (Kd.R_below (zR HO384) hb)
      replace HO387 := Aside0.mk (Kd.R_below (zR HO387) hb)
      replace BK332 := kB BK332 hb
      replace BK333 := kB BK333 hb
      replace BK360 := kB BK360 hb
      replace BK368 := kB BK368 hb
      replace HB := bS HB hb
      (try clear hb)
      (try clear hb2)
      (try clear hk)
      (try clear hi)
      refine hK.out _ _ ⟨bc0 BK368, bc1 BK368, bc2 BK368, bc0 BK333, bc1 BK333, bc2 BK333⟩ (fun hHeld => ?_)
      clear hK K
      refine norm_ (a' := ?_) ?_ ?_
      rotate_left
      ·show Act.put _ (some 48) _ = _
       simp only [Act.put, List.setIfInBounds_toArray, List.set_cons_zero, List.set_cons_succ, i64_w, i32_w]
       rfl
      refine pure_ (i := 4) (N := some 49) (v := ?_) (a' := ?_) #[true, true, true, true, true] rfl rfl (by kernel_rfl) (fun _ _ _ h => h) (Or.inl ⟨by rfl, ?_⟩) ?_ ?_
      rotate_left
      ·intro w'
       go_simp
       with_reducible rfl
      rotate_left
      ·simp only [Act.put, List.setIfInBounds_toArray, List.set_cons_zero, List.set_cons_succ, i64_w, i32_w]
       rfl
      refine done_ (by kernel_rfl) ?_
      try clear hHeld
      have hcz82_0 := bc0 BK360
      have hcz82_1 := bc1 BK360
      have hcz82_2 := bc2 BK360
      have hfz82_0 := bf BK360 0
      have hfz82_1 := bf BK360 1
      have hfz82_2 := bf BK360 2
      go_upto_region 21 with (first | ((with_reducible refine gate_callee (f := 15) rfl ?_); refine goesL_ (some 52) rfl rfl Try.func15 (by kernel_rfl) rfl #[.agg #[.int .i64 t353, .slice Ao57 t354.length co57, .slice Ao58 t357.length co58], .int .i64 1] rfl zG ?_; (with_reducible refine (laws_markMachine.calls k t353 (fun k_ => some k_ = (.slice Ao57 t354.length co57 : Value).ownBlock) (.slice Ao57 t354.length co57) t354 (fun k_ => some k_ = (.slice Ao58 t357.length co58 : Value).ownBlock) (.slice Ao58 t357.length co58) t357 1 t389 t390 t391 w _ ?side1 ?side2 ?side3 A33.out).mono ?_); (case side1 => repeat (first | (with_reducible first | exact HB.out | apply below_alloc | apply pw_below_drewN | apply below_drew1 | refine below_set ?_ GE332.out | refine below_set ?_ GE333.out | refine below_set ?_ GE360.out | refine below_set ?_ GE368.out) | exact HB.out)); (case side2 => exact Kd.R_tight rfl HO356.out); (case side3 => exact Kd.R_tight rfl HO359.out); rintro e w83 ⟨rfl, hy0, hy1, hb, hkp⟩; refine ⟨_, rfl, ?_⟩; replace BK332 := Aside0.mk (blk_kept (zK BK332) hkp (fun hs_ => Or.elim hs_ (fun e_ => (fun e_ => (Kd.R_ne HO356.out BK332.out (by decide)) e_) e_) (fun e_ => (fun e_ => (Kd.R_ne HO359.out BK332.out (by decide)) e_) e_))); replace BK333 := Aside0.mk (blk_kept (zK BK333) hkp (fun hs_ => Or.elim hs_ (fun e_ => (fun e_ => (Kd.R_ne HO356.out BK333.out (by decide)) e_) e_) (fun e_ => (fun e_ => (Kd.R_ne HO359.out BK333.out (by decide)) e_) e_))); replace HO339 := Aside0.mk (Kd.R_mono (ok' := fun k_ => some k_ ≠ (.slice Ao48 t344.length co48 : Value).ownBlock ∧ some k_ ≠ (.slice Ao57 t354.length co57 : Value).ownBlock ∧ some k_ ≠ (.slice Ao66 t362.length co66 : Value).ownBlock ∧ some k_ ≠ (.slice Ao74 t374.length co74 : Value).ownBlock ∧ some k_ ≠ (.slice Ao79 t382.length co79 : Value).ownBlock) (Kd.R_keptB ((Kd.R_apart' HO339.out (Kd.R_typed HO359.out) (by decide))) hkp (fun k_ hk_ hs_ => Or.elim hs_ (fun e_ => ne_pick hk_ e_) (fun e_ => ne_pick hk_ e_))) (fun k_ hk_ => ⟨(pick hk_), (pick hk_), (pick hk_), (pick hk_), (pick hk_)⟩)); replace HO342 := Aside0.mk (Kd.R_mono (ok' := fun k_ => some k_ ≠ (.slice Ao49 t347.length co49 : Value).ownBlock ∧ some k_ ≠ (.slice Ao58 t357.length co58 : Value).ownBlock ∧ some k_ ≠ (.slice Ao67 t365.length co67 : Value).ownBlock ∧ some k_ ≠ (.slice Ao75 t377.length co75 : Value).ownBlock ∧ some k_ ≠ (.slice Ao80 t385.length co80 : Value).ownBlock) (Kd.R_keptB ((Kd.R_apart' HO342.out (Kd.R_typed HO356.out) (by decide))) hkp (fun k_ hk_ hs_ => Or.elim hs_ (fun e_ => ne_pick hk_ e_) (fun e_ => ne_pick hk_ e_))) (fun k_ hk_ => ⟨(pick hk_), (pick hk_), (pick hk_), (pick hk_), (pick hk_)⟩)); replace HO346 := Aside0.mk (Kd.R_mono (ok' := fun k_ => some k_ ≠ (.slice Ao46 t337.length co46 : Value).ownBlock ∧ some k_ ≠ (.slice Ao57 t354.length co57 : Value).ownBlock ∧ some k_ ≠ (.slice Ao66 t362.length co66 : Value).ownBlock ∧ some k_ ≠ (.slice Ao74 t374.length co74 : Value).ownBlock ∧ some k_ ≠ (.slice Ao79 t382.length co79 : Value).ownBlock) (Kd.R_keptB ((Kd.R_apart' HO346.out (Kd.R_typed HO359.out) (by decide))) hkp (fun k_ hk_ hs_ => Or.elim hs_ (fun e_ => ne_pick hk_ e_) (fun e_ => ne_pick hk_ e_))) (fun k_ hk_ => ⟨(pick hk_), (pick hk_), (pick hk_), (pick hk_), (pick hk_)⟩)); replace HO349 := Aside0.mk (Kd.R_mono (ok' := fun k_ => some k_ ≠ (.slice Ao47 t340.length co47 : Value).ownBlock ∧ some k_ ≠ (.slice Ao58 t357.length co58 : Value).ownBlock ∧ some k_ ≠ (.slice Ao67 t365.length co67 : Value).ownBlock ∧ some k_ ≠ (.slice Ao75 t377.length co75 : Value).ownBlock ∧ some k_ ≠ (.slice Ao80 t385.length co80 : Value).ownBlock) (Kd.R_keptB ((Kd.R_apart' HO349.out (Kd.R_typed HO356.out) (by decide))) hkp (fun k_ hk_ hs_ => Or.elim hs_ (fun e_ => ne_pick hk_ e_) (fun e_ => ne_pick hk_ e_))) (fun k_ hk_ => ⟨(pick hk_), (pick hk_), (pick hk_), (pick hk_), (pick hk_)⟩)); replace HO352 := Aside0.mk (Kd.S_mono (ok' := fun k_ => k_ < lo_) (Kd.S_keptB ((Kd.S_apart' (Kd.S_apart' HO352.out (Kd.R_typed HO356.out) (by decide)) (Kd.R_typed HO359.out) (by decide))) hkp (fun k_ hk_ hs_ => Or.elim hs_ (fun e_ => ne_pick hk_ e_) (fun e_ => ne_pick hk_ e_))) (fun k_ hk_ => (pick hk_))); replace BK360 := Aside0.mk (blk_kept (zK BK360) hkp (fun hs_ => Or.elim hs_ (fun e_ => (fun e_ => (Kd.R_ne HO356.out BK360.out (by decide)) e_) e_) (fun e_ => (fun e_ => (Kd.R_ne HO359.out BK360.out (by decide)) e_) e_))); replace HO364 := Aside0.mk (Kd.R_mono (ok' := fun k_ => some k_ ≠ (.slice Ao46 t337.length co46 : Value).ownBlock ∧ some k_ ≠ (.slice Ao48 t344.length co48 : Value).ownBlock ∧ some k_ ≠ (.slice Ao57 t354.length co57 : Value).ownBlock ∧ some k_ ≠ (.slice Ao74 t374.length co74 : Value).ownBlock ∧ some k_ ≠ (.slice Ao79 t382.length co79 : Value).ownBlock) (Kd.R_keptB ((Kd.R_apart' HO364.out (Kd.R_typed HO359.out) (by decide))) hkp (fun k_ hk_ hs_ => Or.elim hs_ (fun e_ => ne_pick hk_ e_) (fun e_ => ne_pick hk_ e_))) (fun k_ hk_ => ⟨(pick hk_), (pick hk_), (pick hk_), (pick hk_), (pick hk_)⟩)); replace HO367 := Aside0.mk (Kd.R_mono (ok' := fun k_ => some k_ ≠ (.slice Ao47 t340.length co47 : Value).ownBlock ∧ some k_ ≠ (.slice Ao49 t347.length co49 : Value).ownBlock ∧ some k_ ≠ (.slice Ao58 t357.length co58 : Value).ownBlock ∧ some k_ ≠ (.slice Ao75 t377.length co75 : Value).ownBlock ∧ some k_ ≠ (.slice Ao80 t385.length co80 : Value).ownBlock) (Kd.R_keptB ((Kd.R_apart' HO367.out (Kd.R_typed HO356.out) (by decide))) hkp (fun k_ hk_ hs_ => Or.elim hs_ (fun e_ => ne_pick hk_ e_) (fun e_ => ne_pick hk_ e_))) (fun k_ hk_ => ⟨(pick hk_), (pick hk_), (pick hk_), (pick hk_), (pick hk_)⟩)); replace BK368 := Aside0.mk (blk_kept (zK BK368) hkp (fun hs_ => Or.elim hs_ (fun e_ => (fun e_ => (Kd.R_ne HO356.out BK368.out (by decide)) e_) e_) (fun e_ => (fun e_ => (Kd.R_ne HO359.out BK368.out (by decide)) e_) e_))); replace HO371 := Aside0.mk (Kd.S_mono (ok' := fun k_ => lo_ ≤ k_) (Kd.S_keptB ((Kd.S_apart' (Kd.S_apart' HO371.out (Kd.R_typed HO356.out) (by decide)) (Kd.R_typed HO359.out) (by decide))) hkp (fun k_ hk_ hs_ => Or.elim hs_ (fun e_ => ne_pick hk_ e_) (fun e_ => ne_pick hk_ e_))) (fun k_ hk_ => (pick hk_))); replace HO376 := Aside0.mk (Kd.R_mono (ok' := fun k_ => some k_ ≠ (.slice Ao46 t337.length co46 : Value).ownBlock ∧ some k_ ≠ (.slice Ao48 t344.length co48 : Value).ownBlock ∧ some k_ ≠ (.slice Ao57 t354.length co57 : Value).ownBlock ∧ some k_ ≠ (.slice Ao66 t362.length co66 : Value).ownBlock ∧ some k_ ≠ (.slice Ao79 t382.length co79 : Value).ownBlock) (Kd.R_keptB ((Kd.R_apart' HO376.out (Kd.R_typed HO359.out) (by decide))) hkp (fun k_ hk_ hs_ => Or.elim hs_ (fun e_ => ne_pick hk_ e_) (fun e_ => ne_pick hk_ e_))) (fun k_ hk_ => ⟨(pick hk_), (pick hk_), (pick hk_), (pick hk_), (pick hk_)⟩)); replace HO379 := Aside0.mk (Kd.R_mono (ok' := fun k_ => some k_ ≠ (.slice Ao47 t340.length co47 : Value).ownBlock ∧ some k_ ≠ (.slice Ao49 t347.length co49 : Value).ownBlock ∧ some k_ ≠ (.slice Ao58 t357.length co58 : Value).ownBlock ∧ some k_ ≠ (.slice Ao67 t365.length co67 : Value).ownBlock ∧ some k_ ≠ (.slice Ao80 t385.length co80 : Value).ownBlock) (Kd.R_keptB ((Kd.R_apart' HO379.out (Kd.R_typed HO356.out) (by decide))) hkp (fun k_ hk_ hs_ => Or.elim hs_ (fun e_ => ne_pick hk_ e_) (fun e_ => ne_pick hk_ e_))) (fun k_ hk_ => ⟨(pick hk_), (pick hk_), (pick hk_), (pick hk_), (pick hk_)⟩)); replace HO384 := Aside0.mk (Kd.R_mono (ok' := fun k_ => some k_ ≠ (.slice Ao46 t337.length co46 : Value).ownBlock ∧ some k_ ≠ (.slice Ao48 t344.length co48 : Value).ownBlock ∧ some k_ ≠ (.slice Ao57 t354.length co57 : Value).ownBlock ∧ some k_ ≠ (.slice Ao66 t362.length co66 : Value).ownBlock ∧ some k_ ≠ (.slice Ao74 t374.length co74 : Value).ownBlock) (Kd.R_keptB ((Kd.R_apart' HO384.out (Kd.R_typed HO359.out) (by decide))) hkp (fun k_ hk_ hs_ => Or.elim hs_ (fun e_ => ne_pick hk_ e_) (fun e_ => ne_pick hk_ e_))) (fun k_ hk_ => ⟨(pick hk_), (pick hk_), (pick hk_), (pick hk_), (pick hk_)⟩)); replace HO359 := Aside0.mk (Kd.R_reok rfl hy1 (fun k_ e_ => HO359.out.1 k_ e_)); replace HO387 := Aside0.mk (Kd.R_mono (ok' := fun k_ => some k_ ≠ (.slice Ao47 t340.length co47 : Value).ownBlock ∧ some k_ ≠ (.slice Ao49 t347.length co49 : Value).ownBlock ∧ some k_ ≠ (.slice Ao58 t357.length co58 : Value).ownBlock ∧ some k_ ≠ (.slice Ao67 t365.length co67 : Value).ownBlock ∧ some k_ ≠ (.slice Ao75 t377.length co75 : Value).ownBlock) (Kd.R_keptB ((Kd.R_apart' HO387.out (Kd.R_typed HO356.out) (by decide))) hkp (fun k_ hk_ hs_ => Or.elim hs_ (fun e_ => ne_pick hk_ e_) (fun e_ => ne_pick hk_ e_))) (fun k_ hk_ => ⟨(pick hk_), (pick hk_), (pick hk_), (pick hk_), (pick hk_)⟩)); replace HO356 := Aside0.mk (Kd.R_reok rfl hy0 (fun k_ e_ => HO356.out.1 k_ e_)); replace HB := Aside0.mk (hb); (try clear hb); (try clear hkp); (try clear hy0); (try clear hy1); have hcz84_0 := bc0 BK368; have hcz84_1 := bc1 BK368; have hcz84_2 := bc2 BK368; have hfz84_0 := bf BK368 0; have hfz84_1 := bf BK368 1; have hfz84_2 := bf BK368 2) | ((with_reducible refine gate_callee (f := 15) rfl ?_); refine goesL_ (some 55) rfl rfl Try.func15 (by kernel_rfl) rfl #[.agg #[.int .i64 t361, .slice Ao66 t362.length co66, .slice Ao67 t365.length co67], .int .i64 t389] rfl zG ?_; (with_reducible refine (laws_markMachine.calls k t361 (fun k_ => some k_ = (.slice Ao66 t362.length co66 : Value).ownBlock) (.slice Ao66 t362.length co66) t362 (fun k_ => some k_ = (.slice Ao67 t365.length co67 : Value).ownBlock) (.slice Ao67 t365.length co67) t365 t389 t392 t393 t394 w _ ?side1 ?side2 ?side3 A34.out).mono ?_); (case side1 => repeat (first | (with_reducible first | exact HB.out | apply below_alloc | apply pw_below_drewN | apply below_drew1 | refine below_set ?_ GE332.out | refine below_set ?_ GE333.out | refine below_set ?_ GE360.out | refine below_set ?_ GE368.out) | exact HB.out)); (case side2 => exact Kd.R_tight rfl HO364.out); (case side3 => exact Kd.R_tight rfl HO367.out); rintro e w85 ⟨rfl, hy0, hy1, hb, hkp⟩; refine ⟨_, rfl, ?_⟩; replace BK332 := Aside0.mk (blk_kept (zK BK332) hkp (fun hs_ => Or.elim hs_ (fun e_ => (fun e_ => (Kd.R_ne HO364.out BK332.out (by decide)) e_) e_) (fun e_ => (fun e_ => (Kd.R_ne HO367.out BK332.out (by decide)) e_) e_))); replace BK333 := Aside0.mk (blk_kept (zK BK333) hkp (fun hs_ => Or.elim hs_ (fun e_ => (fun e_ => (Kd.R_ne HO364.out BK333.out (by decide)) e_) e_) (fun e_ => (fun e_ => (Kd.R_ne HO367.out BK333.out (by decide)) e_) e_))); replace HO339 := Aside0.mk (Kd.R_mono (ok' := fun k_ => some k_ ≠ (.slice Ao48 t344.length co48 : Value).ownBlock ∧ some k_ ≠ (.slice Ao57 t354.length co57 : Value).ownBlock ∧ some k_ ≠ (.slice Ao66 t362.length co66 : Value).ownBlock ∧ some k_ ≠ (.slice Ao74 t374.length co74 : Value).ownBlock ∧ some k_ ≠ (.slice Ao79 t382.length co79 : Value).ownBlock) (Kd.R_keptB ((Kd.R_apart' HO339.out (Kd.R_typed HO367.out) (by decide))) hkp (fun k_ hk_ hs_ => Or.elim hs_ (fun e_ => ne_pick hk_ e_) (fun e_ => ne_pick hk_ e_))) (fun k_ hk_ => ⟨(pick hk_), (pick hk_), (pick hk_), (pick hk_), (pick hk_)⟩)); replace HO342 := Aside0.mk (Kd.R_mono (ok' := fun k_ => some k_ ≠ (.slice Ao49 t347.length co49 : Value).ownBlock ∧ some k_ ≠ (.slice Ao58 t357.length co58 : Value).ownBlock ∧ some k_ ≠ (.slice Ao67 t365.length co67 : Value).ownBlock ∧ some k_ ≠ (.slice Ao75 t377.length co75 : Value).ownBlock ∧ some k_ ≠ (.slice Ao80 t385.length co80 : Value).ownBlock) (Kd.R_keptB ((Kd.R_apart' HO342.out (Kd.R_typed HO364.out) (by decide))) hkp (fun k_ hk_ hs_ => Or.elim hs_ (fun e_ => ne_pick hk_ e_) (fun e_ => ne_pick hk_ e_))) (fun k_ hk_ => ⟨(pick hk_), (pick hk_), (pick hk_), (pick hk_), (pick hk_)⟩)); replace HO346 := Aside0.mk (Kd.R_mono (ok' := fun k_ => some k_ ≠ (.slice Ao46 t337.length co46 : Value).ownBlock ∧ some k_ ≠ (.slice Ao57 t354.length co57 : Value).ownBlock ∧ some k_ ≠ (.slice Ao66 t362.length co66 : Value).ownBlock ∧ some k_ ≠ (.slice Ao74 t374.length co74 : Value).ownBlock ∧ some k_ ≠ (.slice Ao79 t382.length co79 : Value).ownBlock) (Kd.R_keptB ((Kd.R_apart' HO346.out (Kd.R_typed HO367.out) (by decide))) hkp (fun k_ hk_ hs_ => Or.elim hs_ (fun e_ => ne_pick hk_ e_) (fun e_ => ne_pick hk_ e_))) (fun k_ hk_ => ⟨(pick hk_), (pick hk_), (pick hk_), (pick hk_), (pick hk_)⟩)); replace HO349 := Aside0.mk (Kd.R_mono (ok' := fun k_ => some k_ ≠ (.slice Ao47 t340.length co47 : Value).ownBlock ∧ some k_ ≠ (.slice Ao58 t357.length co58 : Value).ownBlock ∧ some k_ ≠ (.slice Ao67 t365.length co67 : Value).ownBlock ∧ some k_ ≠ (.slice Ao75 t377.length co75 : Value).ownBlock ∧ some k_ ≠ (.slice Ao80 t385.length co80 : Value).ownBlock) (Kd.R_keptB ((Kd.R_apart' HO349.out (Kd.R_typed HO364.out) (by decide))) hkp (fun k_ hk_ hs_ => Or.elim hs_ (fun e_ => ne_pick hk_ e_) (fun e_ => ne_pick hk_ e_))) (fun k_ hk_ => ⟨(pick hk_), (pick hk_), (pick hk_), (pick hk_), (pick hk_)⟩)); replace HO352 := Aside0.mk (Kd.S_mono (ok' := fun k_ => k_ < lo_) (Kd.S_keptB ((Kd.S_apart' (Kd.S_apart' HO352.out (Kd.R_typed HO364.out) (by decide)) (Kd.R_typed HO367.out) (by decide))) hkp (fun k_ hk_ hs_ => Or.elim hs_ (fun e_ => ne_pick hk_ e_) (fun e_ => ne_pick hk_ e_))) (fun k_ hk_ => (pick hk_))); replace HO356 := Aside0.mk (Kd.R_mono (ok' := fun k_ => some k_ ≠ (.slice Ao46 t337.length co46 : Value).ownBlock ∧ some k_ ≠ (.slice Ao48 t344.length co48 : Value).ownBlock ∧ some k_ ≠ (.slice Ao66 t362.length co66 : Value).ownBlock ∧ some k_ ≠ (.slice Ao74 t374.length co74 : Value).ownBlock ∧ some k_ ≠ (.slice Ao79 t382.length co79 : Value).ownBlock) (Kd.R_keptB ((Kd.R_apart' HO356.out (Kd.R_typed HO367.out) (by decide))) hkp (fun k_ hk_ hs_ => Or.elim hs_ (fun e_ => ne_pick hk_ e_) (fun e_ => ne_pick hk_ e_))) (fun k_ hk_ => ⟨(pick hk_), (pick hk_), (pick hk_), (pick hk_), (pick hk_)⟩)); replace HO359 := Aside0.mk (Kd.R_mono (ok' := fun k_ => some k_ ≠ (.slice Ao47 t340.length co47 : Value).ownBlock ∧ some k_ ≠ (.slice Ao49 t347.length co49 : Value).ownBlock ∧ some k_ ≠ (.slice Ao67 t365.length co67 : Value).ownBlock ∧ some k_ ≠ (.slice Ao75 t377.length co75 : Value).ownBlock ∧ some k_ ≠ (.slice Ao80 t385.length co80 : Value).ownBlock) (Kd.R_keptB ((Kd.R_apart' HO359.out (Kd.R_typed HO364.out) (by decide))) hkp (fun k_ hk_ hs_ => Or.elim hs_ (fun e_ => ne_pick hk_ e_) (fun e_ => ne_pick hk_ e_))) (fun k_ hk_ => ⟨(pick hk_), (pick hk_), (pick hk_), (pick hk_), (pick hk_)⟩)); replace BK360 := Aside0.mk (blk_kept (zK BK360) hkp (fun hs_ => Or.elim hs_ (fun e_ => (fun e_ => (Kd.R_ne HO364.out BK360.out (by decide)) e_) e_) (fun e_ => (fun e_ => (Kd.R_ne HO367.out BK360.out (by decide)) e_) e_))); replace BK368 := Aside0.mk (blk_kept (zK BK368) hkp (fun hs_ => Or.elim hs_ (fun e_ => (fun e_ => (Kd.R_ne HO364.out BK368.out (by decide)) e_) e_) (fun e_ => (fun e_ => (Kd.R_ne HO367.out BK368.out (by decide)) e_) e_))); replace HO371 := Aside0.mk (Kd.S_mono (ok' := fun k_ => lo_ ≤ k_) (Kd.S_keptB ((Kd.S_apart' (Kd.S_apart' HO371.out (Kd.R_typed HO364.out) (by decide)) (Kd.R_typed HO367.out) (by decide))) hkp (fun k_ hk_ hs_ => Or.elim hs_ (fun e_ => ne_pick hk_ e_) (fun e_ => ne_pick hk_ e_))) (fun k_ hk_ => (pick hk_))); replace HO376 := Aside0.mk (Kd.R_mono (ok' := fun k_ => some k_ ≠ (.slice Ao46 t337.length co46 : Value).ownBlock ∧ some k_ ≠ (.slice Ao48 t344.length co48 : Value).ownBlock ∧ some k_ ≠ (.slice Ao57 t354.length co57 : Value).ownBlock ∧ some k_ ≠ (.slice Ao66 t362.length co66 : Value).ownBlock ∧ some k_ ≠ (.slice Ao79 t382.length co79 : Value).ownBlock) (Kd.R_keptB ((Kd.R_apart' HO376.out (Kd.R_typed HO367.out) (by decide))) hkp (fun k_ hk_ hs_ => Or.elim hs_ (fun e_ => ne_pick hk_ e_) (fun e_ => ne_pick hk_ e_))) (fun k_ hk_ => ⟨(pick hk_), (pick hk_), (pick hk_), (pick hk_), (pick hk_)⟩)); replace HO379 := Aside0.mk (Kd.R_mono (ok' := fun k_ => some k_ ≠ (.slice Ao47 t340.length co47 : Value).ownBlock ∧ some k_ ≠ (.slice Ao49 t347.length co49 : Value).ownBlock ∧ some k_ ≠ (.slice Ao58 t357.length co58 : Value).ownBlock ∧ some k_ ≠ (.slice Ao67 t365.length co67 : Value).ownBlock ∧ some k_ ≠ (.slice Ao80 t385.length co80 : Value).ownBlock) (Kd.R_keptB ((Kd.R_apart' HO379.out (Kd.R_typed HO364.out) (by decide))) hkp (fun k_ hk_ hs_ => Or.elim hs_ (fun e_ => ne_pick hk_ e_) (fun e_ => ne_pick hk_ e_))) (fun k_ hk_ => ⟨(pick hk_), (pick hk_), (pick hk_), (pick hk_), (pick hk_)⟩)); replace HO384 := Aside0.mk (Kd.R_mono (ok' := fun k_ => some k_ ≠ (.slice Ao46 t337.length co46 : Value).ownBlock ∧ some k_ ≠ (.slice Ao48 t344.length co48 : Value).ownBlock ∧ some k_ ≠ (.slice Ao57 t354.length co57 : Value).ownBlock ∧ some k_ ≠ (.slice Ao66 t362.length co66 : Value).ownBlock ∧ some k_ ≠ (.slice Ao74 t374.length co74 : Value).ownBlock) (Kd.R_keptB ((Kd.R_apart' HO384.out (Kd.R_typed HO367.out) (by decide))) hkp (fun k_ hk_ hs_ => Or.elim hs_ (fun e_ => ne_pick hk_ e_) (fun e_ => ne_pick hk_ e_))) (fun k_ hk_ => ⟨(pick hk_), (pick hk_), (pick hk_), (pick hk_), (pick hk_)⟩)); replace HO367 := Aside0.mk (Kd.R_reok rfl hy1 (fun k_ e_ => HO367.out.1 k_ e_)); replace HO387 := Aside0.mk (Kd.R_mono (ok' := fun k_ => some k_ ≠ (.slice Ao47 t340.length co47 : Value).ownBlock ∧ some k_ ≠ (.slice Ao49 t347.length co49 : Value).ownBlock ∧ some k_ ≠ (.slice Ao58 t357.length co58 : Value).ownBlock ∧ some k_ ≠ (.slice Ao67 t365.length co67 : Value).ownBlock ∧ some k_ ≠ (.slice Ao75 t377.length co75 : Value).ownBlock) (Kd.R_keptB ((Kd.R_apart' HO387.out (Kd.R_typed HO364.out) (by decide))) hkp (fun k_ hk_ hs_ => Or.elim hs_ (fun e_ => ne_pick hk_ e_) (fun e_ => ne_pick hk_ e_))) (fun k_ hk_ => ⟨(pick hk_), (pick hk_), (pick hk_), (pick hk_), (pick hk_)⟩)); replace HO364 := Aside0.mk (Kd.R_reok rfl hy0 (fun k_ e_ => HO364.out.1 k_ e_)); replace HB := Aside0.mk (hb); (try clear hb); (try clear hkp); (try clear hy0); (try clear hy1)))
      (try simp only [Act.put, List.setIfInBounds_toArray, List.set_cons_zero, List.set_cons_succ])
      go_cut [63] (fun v63 wc => ∃ (kq : Nat) (x63_34 : Bool), v63 = .bool x63_34 ∧ Aside0 (laws_FnExactFollowPairs.j0 kq t350 t369 x63_34 a0_0 l0_1 l0_2 a1_0 l1_1 l1_2 = some r) ∧ Aside0 (kq ≤ k) ∧ Aside0 (Kd.S (Kd.slice 3 (Kd.int .i64)) 38 wc w.heap.size (fun k_ => k_ < lo_) (.slice Ao71 t350.length co71) t350) ∧ Aside0 (Kd.S (Kd.slice 3 (Kd.int .i64)) 38 wc w.heap.size (fun k_ => lo_ ≤ k_) (.slice Ao70 t369.length co70) t369) ∧ Aside0 (Kd.R Kd.bool 4 wc w.heap.size (fun k_ => some k_ ≠ ((.slice Ao66 t362.length co66) : Value).ownBlock) (.slice Ao57 t354.length co57) t390) ∧ Aside0 (Kd.R k64 64 wc w.heap.size (fun k_ => some k_ ≠ ((.slice Ao67 t365.length co67) : Value).ownBlock) (.slice Ao58 t357.length co58) t391) ∧ Aside0 (Kd.R Kd.bool 4 wc w.heap.size (fun k_ => some k_ ≠ ((.slice Ao57 t354.length co57) : Value).ownBlock) (.slice Ao66 t362.length co66) t393) ∧ Aside0 (Kd.R k64 64 wc w.heap.size (fun k_ => some k_ ≠ ((.slice Ao58 t357.length co58) : Value).ownBlock) (.slice Ao67 t365.length co67) t394) ∧ Aside0 (wc.heap[gb332]? = some (.cells #[.int .i64 a0_0, (.slice A0_1 l0_1.length c0_1), (.slice A0_2 l0_2.length c0_2)] 25 (0, 0))) ∧ Aside0 (wc.heap[gb333]? = some (.cells #[.int .i64 a1_0, (.slice A1_1 l1_1.length c1_1), (.slice A1_2 l1_2.length c1_2)] 25 (0, 0))) ∧ Aside0 (wc.heap[gb360]? = some (.cells #[.int .i64 t353, (.slice Ao57 t354.length co57), (.slice Ao58 t357.length co58)] 31 (0, 0))) ∧ Aside0 (wc.heap[gb368]? = some (.cells #[.int .i64 t361, (.slice Ao66 t362.length co66), (.slice Ao67 t365.length co67)] 31 (0, 0))) ∧ Aside0 (Below w.heap.size w wc))
      case first =>
       have H := HC35.out
       clear HC35
       by_cases c86 : t392 < 0
       ·rw [if_pos c86] at H
        have c86b0 : decide (t392 < 0) = true := decide_eq_true c86
        clear c86
        (first | rw [c86b0] | (simp only [i64_w, i32_w]; rw [c86b0]) | skip)
        have H' := Aside0.mk H
        clear H
        go_wp2
        go_meet
        case rel => exact ⟨_, (true), zF, H', ⟨by first | omega | exact Nat.le_refl _⟩, ⟨zS HO352⟩, ⟨zS HO371⟩, ⟨by (with_reducible repeat (first | apply Kd.R_alloc | apply Kd.R_drewN | apply Kd.R_drew)); exact Kd.R_mono HO356.out (fun _ hk => hk.2.2.1)⟩, ⟨by (with_reducible repeat (first | apply Kd.R_alloc | apply Kd.R_drewN | apply Kd.R_drew)); exact Kd.R_mono HO359.out (fun _ hk => hk.2.2.1)⟩, ⟨by (with_reducible repeat (first | apply Kd.R_alloc | apply Kd.R_drewN | apply Kd.R_drew)); exact Kd.R_mono HO364.out (fun _ hk => hk.2.2.1)⟩, ⟨by (with_reducible repeat (first | apply Kd.R_alloc | apply Kd.R_drewN | apply Kd.R_drew)); exact Kd.R_mono HO367.out (fun _ hk => hk.2.2.1)⟩, ⟨zK BK332⟩, ⟨zK BK333⟩, ⟨zK BK360⟩, ⟨zK BK368⟩, ⟨zB HB⟩⟩
       ·rw [if_neg c86] at H
        have c86b0 : decide (t392 < 0) = false := decide_eq_false c86
        clear c86
        (first | rw [c86b0] | (simp only [i64_w, i32_w]; rw [c86b0]) | skip)
        obtain ⟨t395, A87, H⟩ := bindS H
        have H' := Aside0.mk H
        clear H
        go_wp2_with (first | (go_at_call 13; (with_reducible refine (laws_eqIntSS.calls k _ _ t369 _ _ t350 t395 _ ?side1 ?side2 ?side3 ?side4 A87.out).mono ?_); (case side1 => repeat (first | exact (Kd.S_reads' HO371.out).2.2 | (with_reducible refine Kd.C_alloc ?_ _) | (with_reducible refine Kd.C_drewN ?_ _) | (with_reducible refine Kd.C_drew ?_))); (case side2 => exact (Kd.S_reads' HO371.out).2.1); (case side3 => repeat (first | exact (Kd.S_reads' HO352.out).2.2 | (with_reducible refine Kd.C_alloc ?_ _) | (with_reducible refine Kd.C_drewN ?_ _) | (with_reducible refine Kd.C_drew ?_))); (case side4 => exact (Kd.S_reads' HO352.out).2.1); rintro e w' ⟨rfl, ⟨nd, rfl⟩⟩))
        go_meet
        case rel => exact ⟨_, (!t395), zF, H', ⟨by first | omega | exact Nat.le_refl _⟩, ⟨zS HO352⟩, ⟨zS HO371⟩, ⟨by (with_reducible repeat (first | apply Kd.R_alloc | apply Kd.R_drewN | apply Kd.R_drew)); exact Kd.R_mono HO356.out (fun _ hk => hk.2.2.1)⟩, ⟨by (with_reducible repeat (first | apply Kd.R_alloc | apply Kd.R_drewN | apply Kd.R_drew)); exact Kd.R_mono HO359.out (fun _ hk => hk.2.2.1)⟩, ⟨by (with_reducible repeat (first | apply Kd.R_alloc | apply Kd.R_drewN | apply Kd.R_drew)); exact Kd.R_mono HO364.out (fun _ hk => hk.2.2.1)⟩, ⟨by (with_reducible repeat (first | apply Kd.R_alloc | apply Kd.R_drewN | apply Kd.R_drew)); exact Kd.R_mono HO367.out (fun _ hk => hk.2.2.1)⟩, ⟨zK BK332⟩, ⟨zK BK333⟩, ⟨zK BK360⟩, ⟨zK BK368⟩, ⟨zB HB⟩⟩
      case rest =>
       clear HC35
       try clear c1
       try clear p2
       try clear c5
       try clear c6
       try clear c8
       try clear c11
       try clear c13
       try clear c14
       try clear c15
       try clear c18
       try clear c19
       try clear c54
       try clear c55
       try clear c62
       try clear c63
       try clear c64
       try clear c86
       try clear c86b0
       try clear hcz51_0
       try clear hcz51_1
       try clear hcz51_2
       try clear hcz56_0
       try clear hcz56_1
       try clear hcz56_2
       try clear hcz59_0
       try clear hcz59_1
       try clear hcz59_2
       try clear hcz65_0
       try clear hcz65_1
       try clear hcz65_2
       try clear hcz68_0
       try clear hcz68_1
       try clear hcz68_2
       try clear hcz82_0
       try clear hcz82_1
       try clear hcz82_2
       try clear hcz84_0
       try clear hcz84_1
       try clear hcz84_2
       try clear hfz51_0
       try clear hfz51_1
       try clear hfz51_2
       try clear hfz56_0
       try clear hfz56_1
       try clear hfz56_2
       try clear hfz59_0
       try clear hfz59_1
       try clear hfz59_2
       try clear hfz65_0
       try clear hfz65_1
       try clear hfz65_2
       try clear hfz68_0
       try clear hfz68_1
       try clear hfz68_2
       try clear hfz82_0
       try clear hfz82_1
       try clear hfz82_2
       try clear hfz84_0
       try clear hfz84_1
       try clear hfz84_2
       obtain ⟨kq, x63_34, rfl, HA, HJ34, HO_6, HO_9, HO_361001, HO_361002, HO_369001, HO_369002, BK332, BK333, BK360, BK368, HB⟩ := hcut
       have hl361001_34 := (Kd.R_reads' HO_361001.out).1
       rw [hl361001_34] at HO_361001
       (try simp only [hl361001_34])
       (try simp only [hl361001_34] at BK332)
       (try simp only [hl361001_34] at BK333)
       (try simp only [hl361001_34] at BK360)
       (try simp only [hl361001_34] at BK368)
       (try simp only [hl361001_34] at HO_6)
       (try simp only [hl361001_34] at HO_9)
       (try simp only [hl361001_34] at HO_361002)
       (try simp only [hl361001_34] at HO_369001)
       (try simp only [hl361001_34] at HO_369002)
       have hl361002_34 := (Kd.R_reads' HO_361002.out).1
       rw [hl361002_34] at HO_361002
       (try simp only [hl361002_34])
       (try simp only [hl361002_34] at BK332)
       (try simp only [hl361002_34] at BK333)
       (try simp only [hl361002_34] at BK360)
       (try simp only [hl361002_34] at BK368)
       (try simp only [hl361002_34] at HO_6)
       (try simp only [hl361002_34] at HO_9)
       (try simp only [hl361002_34] at HO_361001)
       (try simp only [hl361002_34] at HO_369001)
       (try simp only [hl361002_34] at HO_369002)
       have hl369001_34 := (Kd.R_reads' HO_369001.out).1
       rw [hl369001_34] at HO_369001
       (try simp only [hl369001_34])
       (try simp only [hl369001_34] at BK332)
       (try simp only [hl369001_34] at BK333)
       (try simp only [hl369001_34] at BK360)
       (try simp only [hl369001_34] at BK368)
       (try simp only [hl369001_34] at HO_6)
       (try simp only [hl369001_34] at HO_9)
       (try simp only [hl369001_34] at HO_361001)
       (try simp only [hl369001_34] at HO_361002)
       (try simp only [hl369001_34] at HO_369002)
       have hl369002_34 := (Kd.R_reads' HO_369002.out).1
       rw [hl369002_34] at HO_369002
       (try simp only [hl369002_34])
       (try simp only [hl369002_34] at BK332)
       (try simp only [hl369002_34] at BK333)
       (try simp only [hl369002_34] at BK360)
       (try simp only [hl369002_34] at BK368)
       (try simp only [hl369002_34] at HO_6)
       (try simp only [hl369002_34] at HO_9)
       (try simp only [hl369002_34] at HO_361001)
       (try simp only [hl369002_34] at HO_361002)
       (try simp only [hl369002_34] at HO_369001)
       cases kq with
       | zero => exact absurd HA.out (by simp [laws_FnExactFollowPairs.j0])
       | succ kj34 =>
        have H := HA.out
        clear HA
        simp only [laws_FnExactFollowPairs.j0] at H
        by_cases c88 : x63_34 = true
        ·subst c88
         have H1 : (some false) = some r := by rw [if_pos rfl] at H; exact H
         clear H
         have H := H1
         clear H1
         exact absurd H (by simp [ht_])
        ·replace c88 := Bool.eq_false_iff.mpr c88
         subst c88
         have H1 : ((laws_markIntSS.f kj34 t369 1).bind fun bt396 => ((laws_heldIntSS.f kj34 bt396.2 1).bind fun t398 => (if t398 < 0 then (some false) else (if t398 = bt396.1 then ((laws_toMachine.f kj34 a0_0 l0_1 l0_2).bind fun bt399 => ((laws_toMachine.f kj34 a1_0 l1_1 l1_2).bind fun bt406 => ((impl_FollowPairs.f kj34 bt399.1 bt399.2.1 bt399.2.2 bt406.1 bt406.2.1 bt406.2.2).bind fun t413 => ((laws_eqIntSS.f kj34 t413 t350).bind fun t416 => (if t416 = true then ((laws_heldIntSS.f kj34 bt396.2 1).bind fun t417 => (if t417 < 0 then (some false) else (if t417 = bt396.1 then (some true) else (some false)))) else (some false)))))) else (some false))))) = some r := by rw [if_neg (show ¬ (false = true) by decide)] at H; exact H
         clear H
         have H := H1
         clear H1
         replace H := Option.bind_eq_some_iff.mp H
         obtain ⟨⟨t396, t397⟩, A890, H⟩ := H
         replace H : ((laws_heldIntSS.f kj34 t397 1).bind fun t398 => (if t398 < 0 then (some false) else (if t398 = t396 then ((laws_toMachine.f kj34 a0_0 l0_1 l0_2).bind fun bt399 => ((laws_toMachine.f kj34 a1_0 l1_1 l1_2).bind fun bt406 => ((impl_FollowPairs.f kj34 bt399.1 bt399.2.1 bt399.2.2 bt406.1 bt406.2.1 bt406.2.2).bind fun t413 => ((laws_eqIntSS.f kj34 t413 t350).bind fun t416 => (if t416 = true then ((laws_heldIntSS.f kj34 t397 1).bind fun t417 => (if t417 < 0 then (some false) else (if t417 = t396 then (some true) else (some false)))) else (some false)))))) else (some false)))) = some r := H
         have A89 := Aside0.mk A890
         clear A890
         obtain ⟨t398, A90, H⟩ := bindS H
         by_cases c91 : t398 < 0
         ·rw [if_pos c91] at H
          have c91b0 : decide (t398 < 0) = true := decide_eq_true c91
          clear c91
          exact absurd H (by simp [ht_])
         ·rw [if_neg c91] at H
          have c91b0 : decide (t398 < 0) = false := decide_eq_false c91
          clear c91
          by_cases c92 : t398 = t396
          ·rw [if_pos c92] at H
           have c92b0 : (t398 == t396) = true := beq_iff_eq.mpr c92
           have c92b1 : (t398 != t396) = false := bne_eq_false_iff_eq.mpr c92
           clear c92
           replace H := Option.bind_eq_some_iff.mp H
           obtain ⟨⟨t399, t400, t403⟩, A930, H⟩ := H
           replace H : ((laws_toMachine.f kj34 a1_0 l1_1 l1_2).bind fun bt406 => ((impl_FollowPairs.f kj34 t399 t400 t403 bt406.1 bt406.2.1 bt406.2.2).bind fun t413 => ((laws_eqIntSS.f kj34 t413 t350).bind fun t416 => (if t416 = true then ((laws_heldIntSS.f kj34 t397 1).bind fun t417 => (if t417 < 0 then (some false) else (if t417 = t396 then (some true) else (some false)))) else (some false))))) = some r := H
           have A93 := Aside0.mk A930
           clear A930
           replace H := Option.bind_eq_some_iff.mp H
           obtain ⟨⟨t406, t407, t410⟩, A940, H⟩ := H
           replace H : ((impl_FollowPairs.f kj34 t399 t400 t403 t406 t407 t410).bind fun t413 => ((laws_eqIntSS.f kj34 t413 t350).bind fun t416 => (if t416 = true then ((laws_heldIntSS.f kj34 t397 1).bind fun t417 => (if t417 < 0 then (some false) else (if t417 = t396 then (some true) else (some false)))) else (some false)))) = some r := H
           have A94 := Aside0.mk A940
           clear A940
           obtain ⟨t413, A95, H⟩ := bindS H
           obtain ⟨t416, A96, H⟩ := bindS H
           by_cases c97 : t416 = true
           ·subst c97
            have H1 : ((laws_heldIntSS.f kj34 t397 1).bind fun t417 => (if t417 < 0 then (some false) else (if t417 = t396 then (some true) else (some false)))) = some r := by rw [if_pos rfl] at H; exact H
            clear H
            have H := H1
            clear H1
            obtain ⟨t417, A98, H⟩ := bindS H
            by_cases c99 : t417 < 0
            ·rw [if_pos c99] at H
             have c99b0 : decide (t417 < 0) = true := decide_eq_true c99
             clear c99
             exact absurd H (by simp [ht_])
            ·rw [if_neg c99] at H
             have c99b0 : decide (t417 < 0) = false := decide_eq_false c99
             clear c99
             by_cases c100 : t417 = t396
             ·rw [if_pos c100] at H
              have c100b0 : (t417 == t396) = true := beq_iff_eq.mpr c100
              have c100b1 : (t417 != t396) = false := bne_eq_false_iff_eq.mpr c100
              clear c100
              obtain rfl := Option.some.inj H
              obtain ⟨PG_, sg_, lg_, tg_⟩ := gh_hold HO_9.out
              have SG_ := Aside0.mk sg_
              have LG_ := Aside0.mk lg_
              have TG_ := Aside0.mk tg_
              clear sg_ lg_ tg_
              try go_wp2_with (first | ((with_reducible refine gate_callee (f := 16) rfl ?_); refine goesL_ (some 66) rfl rfl Try.func16 (by kernel_rfl) rfl #[.slice Ao70 t369.length co70, .int .i64 1] rfl zG ?_; (with_reducible refine (laws_markIntSS.calls kj34 PG_ (.slice Ao70 t369.length co70) t369 1 t396 t397 w _ ?side1 ?side2 A89.out).mono ?_); (case side1 => repeat (first | (with_reducible first | exact HB.out | apply below_alloc | apply pw_below_drewN | apply below_drew1 | refine below_set ?_ GE332.out | refine below_set ?_ GE333.out | refine below_set ?_ GE360.out | refine below_set ?_ GE368.out) | exact HB.out)); (case side2 => exact SG_.out); rintro e w101 ⟨rfl, hy0, hb, hkp⟩; refine ⟨_, rfl, ?_⟩; replace HO_6 := Aside0.mk (Kd.S_mono (ok' := fun k_ => k_ < lo_) (Kd.S_keptB (HO_6.out) hkp (fun k_ hk_ hs_ => Nat.not_le.2 hk_ (LG_.out k_ hs_))) (fun k_ hk_ => (pick hk_))); replace HO_361001 := Aside0.mk (Kd.R_mono (ok' := fun k_ => some k_ ≠ (.slice Ao66 t393.length co66 : Value).ownBlock) (Kd.R_keptB (Kd.R_bound HO_361001.out) hkp (fun k_ hk_ hs_ => gh_ne hk_.2.2.2 (TG_.out k_ hs_) (by decide))) (fun k_ hk_ => (pick hk_))); replace HO_361002 := Aside0.mk (Kd.R_mono (ok' := fun k_ => some k_ ≠ (.slice Ao67 t394.length co67 : Value).ownBlock) (Kd.R_keptB (Kd.R_bound HO_361002.out) hkp (fun k_ hk_ hs_ => gh_ne hk_.2.2.2 (TG_.out k_ hs_) (by decide))) (fun k_ hk_ => (pick hk_))); replace HO_369001 := Aside0.mk (Kd.R_mono (ok' := fun k_ => some k_ ≠ (.slice Ao57 t390.length co57 : Value).ownBlock) (Kd.R_keptB (Kd.R_bound HO_369001.out) hkp (fun k_ hk_ hs_ => gh_ne hk_.2.2.2 (TG_.out k_ hs_) (by decide))) (fun k_ hk_ => (pick hk_))); replace HO_369002 := Aside0.mk (Kd.R_mono (ok' := fun k_ => some k_ ≠ (.slice Ao58 t391.length co58 : Value).ownBlock) (Kd.R_keptB (Kd.R_bound HO_369002.out) hkp (fun k_ hk_ hs_ => gh_ne hk_.2.2.2 (TG_.out k_ hs_) (by decide))) (fun k_ hk_ => (pick hk_))); replace BK332 := Aside0.mk (blk_kept (zK BK332) hkp (fun hs_ => gh_blk BK332.out (TG_.out _ hs_) (by decide))); replace BK333 := Aside0.mk (blk_kept (zK BK333) hkp (fun hs_ => gh_blk BK333.out (TG_.out _ hs_) (by decide))); replace BK360 := Aside0.mk (blk_kept (zK BK360) hkp (fun hs_ => gh_blk BK360.out (TG_.out _ hs_) (by decide))); replace BK368 := Aside0.mk (blk_kept (zK BK368) hkp (fun hs_ => gh_blk BK368.out (TG_.out _ hs_) (by decide))); replace HO_9 := Aside0.mk (Kd.S_mono (ok' := fun _ => True) hy0 (fun _ _ => trivial)); replace HB := Aside0.mk (hb); (try clear hb); (try clear hkp); (try clear hy0)) | ((with_reducible refine gate_callee (f := 17) rfl ?_); refine goesL_ (some 69) rfl rfl Try.func17 (by kernel_rfl) rfl #[.slice Ao70 t397.length co70, .int .i64 1] rfl (by (try simp only [List.map_toArray, List.map_cons, List.map_nil]); first | done | (rw [show t397.length = t369.length from (Kd.S_reads' HO_9.out).1.symm] <;> rfl) | rfl | (simp only [List.length_drop, List.length_take]; rfl)) ?_; (with_reducible refine (laws_heldIntSS.calls kj34 _ _ t397 1 t398 _ ?side1 ?side2 A90.out).mono ?_); (case side1 => repeat (first | exact (Kd.S_reads' HO_9.out).2.2 | (with_reducible refine Kd.C_alloc ?_ _) | (with_reducible refine Kd.C_drewN ?_ _) | (with_reducible refine Kd.C_drew ?_))); (case side2 => rw [show t397.length = t369.length from (Kd.S_reads' HO_9.out).1.symm]; exact (Kd.S_reads' HO_9.out).2.1); rintro e w' ⟨rfl, ⟨nd, rfl⟩⟩; refine ⟨_, rfl, ?_⟩))
              (try (rw [drewN_self w101]; generalize hq_ : World.drewN w101 _ = w101; have n0_ : Aside0 (Kd.R Kd.bool 4 w101 w.heap.size (fun k_ => some k_ ≠ (.slice Ao66 t393.length co66 : Value).ownBlock) (.slice Ao57 t390.length co57) t390) := ⟨by rw [← hq_]; exact (zR HO_361001)⟩; have n1_ : Aside0 (Kd.R k64 64 w101 w.heap.size (fun k_ => some k_ ≠ (.slice Ao67 t394.length co67 : Value).ownBlock) (.slice Ao58 t391.length co58) t391) := ⟨by rw [← hq_]; exact (zR HO_361002)⟩; have n2_ : Aside0 (Kd.R Kd.bool 4 w101 w.heap.size (fun k_ => some k_ ≠ (.slice Ao57 t390.length co57 : Value).ownBlock) (.slice Ao66 t393.length co66) t393) := ⟨by rw [← hq_]; exact (zR HO_369001)⟩; have n3_ : Aside0 (Kd.R k64 64 w101 w.heap.size (fun k_ => some k_ ≠ (.slice Ao58 t391.length co58 : Value).ownBlock) (.slice Ao67 t394.length co67) t394) := ⟨by rw [← hq_]; exact (zR HO_369002)⟩; have n4_ : Aside0 (Kd.S (Kd.slice 3 (Kd.int .i64)) 38 w101 w.heap.size (fun k_ => k_ < lo_) (.slice Ao71 t350.length co71) t350) := ⟨by rw [← hq_]; exact (zS HO_6)⟩; have n5_ : Aside0 (Kd.S (Kd.slice 3 (Kd.int .i64)) 38 w101 w.heap.size (fun k_ => True) (.slice Ao70 t369.length co70) t397) := ⟨by rw [← hq_]; exact (zS HO_9)⟩; have n6_ : Aside0 (w101.heap[gb332]? = some (.cells #[.int .i64 a0_0, .slice A0_1 l0_1.length c0_1, .slice A0_2 l0_2.length c0_2] 25 (0, 0))) := ⟨by rw [← hq_]; exact (zK BK332)⟩; have n7_ : Aside0 (w101.heap[gb333]? = some (.cells #[.int .i64 a1_0, .slice A1_1 l1_1.length c1_1, .slice A1_2 l1_2.length c1_2] 25 (0, 0))) := ⟨by rw [← hq_]; exact (zK BK333)⟩; have n8_ : Aside0 (w101.heap[gb360]? = some (.cells #[.int .i64 t353, .slice Ao57 t390.length co57, .slice Ao58 t391.length co58] 31 (0, 0))) := ⟨by rw [← hq_]; exact (zK BK360)⟩; have n9_ : Aside0 (w101.heap[gb368]? = some (.cells #[.int .i64 t361, .slice Ao66 t393.length co66, .slice Ao67 t394.length co67] 31 (0, 0))) := ⟨by rw [← hq_]; exact (zK BK368)⟩; have n10_ : Aside0 (Below w.heap.size w w101) := ⟨by rw [← hq_]; exact (zB HB)⟩; clear HO_361001 HO_361002 HO_369001 HO_369002 HO_6 HO_9 BK332 BK333 BK360 BK368 HB hq_; have HO_361001 := n0_; have HO_361002 := n1_; have HO_369001 := n2_; have HO_369002 := n3_; have HO_6 := n4_; have HO_9 := n5_; have BK332 := n6_; have BK333 := n7_; have BK360 := n8_; have BK368 := n9_; have HB := n10_; clear n0_ n1_ n2_ n3_ n4_ n5_ n6_ n7_ n8_ n9_ n10_; have hcw332_0 : w101.cell? ⟨gb332, 0, none⟩ = some (.int .i64 a0_0) := bc0 BK332; have hfw332_0 := bf BK332 0; have hcw332_1 : w101.cell? ⟨gb332, 1, none⟩ = some (.slice A0_1 l0_1.length c0_1) := bc1 BK332; have hfw332_1 := bf BK332 1; have hcw332_2 : w101.cell? ⟨gb332, 2, none⟩ = some (.slice A0_2 l0_2.length c0_2) := bc2 BK332; have hfw332_2 := bf BK332 2; have hcw333_0 : w101.cell? ⟨gb333, 0, none⟩ = some (.int .i64 a1_0) := bc0 BK333; have hfw333_0 := bf BK333 0; have hcw333_1 : w101.cell? ⟨gb333, 1, none⟩ = some (.slice A1_1 l1_1.length c1_1) := bc1 BK333; have hfw333_1 := bf BK333 1; have hcw333_2 : w101.cell? ⟨gb333, 2, none⟩ = some (.slice A1_2 l1_2.length c1_2) := bc2 BK333; have hfw333_2 := bf BK333 2; have hcw360_0 : w101.cell? ⟨gb360, 0, none⟩ = some (.int .i64 t353) := bc0 BK360; have hfw360_0 := bf BK360 0; have hcw360_1 : w101.cell? ⟨gb360, 1, none⟩ = some (.slice Ao57 t390.length co57) := bc1 BK360; have hfw360_1 := bf BK360 1; have hcw360_2 : w101.cell? ⟨gb360, 2, none⟩ = some (.slice Ao58 t391.length co58) := bc2 BK360; have hfw360_2 := bf BK360 2; have hcw368_0 : w101.cell? ⟨gb368, 0, none⟩ = some (.int .i64 t361) := bc0 BK368; have hfw368_0 := bf BK368 0; have hcw368_1 : w101.cell? ⟨gb368, 1, none⟩ = some (.slice Ao66 t393.length co66) := bc1 BK368; have hfw368_1 := bf BK368 1; have hcw368_2 : w101.cell? ⟨gb368, 2, none⟩ = some (.slice Ao67 t394.length co67) := bc2 BK368; have hfw368_2 := bf BK368 2))
              try (obtain ⟨wn_, hwn_⟩ : ∃ x_ : World, x_ = w101.drewN nd := ⟨_, rfl⟩; rw [← hwn_]; have hq_ := Kd.S_drewN HO_6.out nd; rw [← hwn_] at hq_; replace HO_6 := Aside0.mk hq_; clear hq_; have hq_ := Kd.S_drewN HO_9.out nd; rw [← hwn_] at hq_; replace HO_9 := Aside0.mk hq_; clear hq_; have hq_ := Kd.R_drewN HO_361001.out nd; rw [← hwn_] at hq_; replace HO_361001 := Aside0.mk hq_; clear hq_; have hq_ := Kd.R_drewN HO_361002.out nd; rw [← hwn_] at hq_; replace HO_361002 := Aside0.mk hq_; clear hq_; have hq_ := Kd.R_drewN HO_369001.out nd; rw [← hwn_] at hq_; replace HO_369001 := Aside0.mk hq_; clear hq_; have hq_ := Kd.R_drewN HO_369002.out nd; rw [← hwn_] at hq_; replace HO_369002 := Aside0.mk hq_; clear hq_; have hq_ := blk_drewN BK332.out nd; rw [← hwn_] at hq_; replace BK332 := Aside0.mk hq_; clear hq_; have hq_ := blk_drewN BK333.out nd; rw [← hwn_] at hq_; replace BK333 := Aside0.mk hq_; clear hq_; have hq_ := blk_drewN BK360.out nd; rw [← hwn_] at hq_; replace BK360 := Aside0.mk hq_; clear hq_; have hq_ := blk_drewN BK368.out nd; rw [← hwn_] at hq_; replace BK368 := Aside0.mk hq_; clear hq_; have hq_ := pw_below_drewN HB.out nd; rw [← hwn_] at hq_; replace HB := Aside0.mk hq_; clear hq_; clear hwn_)
              replace HO_6 := Aside0.mk (Kd.S_drew HO_6.out)
              replace HO_9 := Aside0.mk (Kd.S_drew HO_9.out)
              replace HO_361001 := Aside0.mk (Kd.R_drew HO_361001.out)
              replace HO_361002 := Aside0.mk (Kd.R_drew HO_361002.out)
              replace HO_369001 := Aside0.mk (Kd.R_drew HO_369001.out)
              replace HO_369002 := Aside0.mk (Kd.R_drew HO_369002.out)
              replace BK332 := Aside0.mk (blk_drew BK332.out)
              replace BK333 := Aside0.mk (blk_drew BK333.out)
              replace BK360 := Aside0.mk (blk_drew BK360.out)
              replace BK368 := Aside0.mk (blk_drew BK368.out)
              replace HB := Aside0.mk (below_drew1 HB.out)
              refine start_ (n := 6) (S := fun w' => w'.cell? ⟨gb332, 0, none⟩ = some (.int .i64 a0_0) ∧ w'.cell? ⟨gb332, 1, none⟩ = some (.slice A0_1 l0_1.length c0_1) ∧ w'.cell? ⟨gb332, 2, none⟩ = some (.slice A0_2 l0_2.length c0_2) ∧ w'.cell? ⟨gb333, 0, none⟩ = some (.int .i64 a1_0) ∧ w'.cell? ⟨gb333, 1, none⟩ = some (.slice A1_1 l1_1.length c1_1) ∧ w'.cell? ⟨gb333, 2, none⟩ = some (.slice A1_2 l1_2.length c1_2)) (ds := []) (bm 6 0) (by kernel_rfl) rfl (bm0 _) ⟨bc0 BK332, bc1 BK332, bc2 BK332, bc0 BK333, bc1 BK333, bc2 BK333⟩ (fun hHeld => ?_)
              first | (generalize wn_.drew = w102 at HO_6 HO_9 HO_361001 HO_361002 HO_369001 HO_369002 BK332 BK333 BK360 BK368 HB hHeld ⊢) | (generalize w101.drew = w102 at HO_6 HO_9 HO_361001 HO_361002 HO_369001 HO_369002 BK332 BK333 BK360 BK368 HB hHeld ⊢)
              refine take_ (i := 0) (N := some 75) (v := ?_) (a' := ?_) (bm 6 1) rfl rfl (by kernel_rfl) (fun _ _ _ h => h) (Or.inl ⟨by rfl, ?_⟩) hHeld ?_ ?_
              rotate_left
              ·rintro w' ⟨s0, s1, s2, s3, s4, s5⟩
               go_simp
               with_reducible rfl
              rotate_left
              ·simp only [Act.put, List.setIfInBounds_toArray, List.set_cons_zero, List.set_cons_succ, i64_w, i32_w]
               rfl
              refine take_ (i := 2) (N := some 77) (v := ?_) (a' := ?_) (bm 6 5) rfl rfl (by kernel_rfl) (fun _ _ _ h => h) (Or.inl ⟨by rfl, ?_⟩) hHeld ?_ ?_
              rotate_left
              ·rintro w' ⟨s0, s1, s2, s3, s4, s5⟩
               go_simp
               with_reducible rfl
              rotate_left
              ·simp only [Act.put, List.setIfInBounds_toArray, List.set_cons_zero, List.set_cons_succ, i64_w, i32_w]
               rfl
              refine one_ (i := 1) (N := some 76) (bm 6 7) rfl rfl (by kernel_rfl) (by decide) (fun K hK => ?_)
              refine goes_ Try.func11 (by kernel_rfl) rfl #[.agg #[.int .i64 a0_0, .slice A0_1 l0_1.length c0_1, .slice A0_2 l0_2.length c0_2]] (by rfl) rfl rfl zG ?_
              with_reducible refine (laws_toMachine.calls kj34 a0_0 _ _ l0_1 _ _ l0_2 t399 t400 t403 _ ?side1 ?side2 ?side3 ?side4 A93.out).mono ?_
              (case side1 => exact cS HR0_1 HB)
              (case side2 => exact HC0_1.out)
              (case side3 => exact cS HR0_2 HB)
              (case side4 => exact HC0_2.out)
              rintro e w103 ⟨v401, v404, rfl, ho0, ho1, hb⟩
              refine ⟨_, rfl, ?_⟩
              replace HO_6 := Aside0.mk (Kd.S_below (zS HO_6) hb)
              replace HO_9 := Aside0.mk (Kd.S_below (zS HO_9) hb)
              have HO402 := Aside0.mk (Kd.R_lower (Kd.R_new' (Kd.R_new' ho0 (Kd.R_lt (zR HO_361001))) (Kd.R_lt (zR HO_369001))) (below_size (zB HB)))
              replace HO_361001 := Aside0.mk (Kd.R_elder' (zR HO_361001) (Kd.R_base ho0) hb)
              replace HO_369001 := Aside0.mk (Kd.R_elder' (zR HO_369001) (Kd.R_base ho0) hb)
              have HO405 := Aside0.mk (Kd.R_lower (Kd.R_new' (Kd.R_new' ho1 (Kd.R_lt (zR HO_361002))) (Kd.R_lt (zR HO_369002))) (below_size (zB HB)))
              replace HO_361002 := Aside0.mk (Kd.R_elder' (zR HO_361002) (Kd.R_base ho1) hb)
              replace HO_369002 := Aside0.mk (Kd.R_elder' (zR HO_369002) (Kd.R_base ho1) hb)
              replace BK332 := kB BK332 hb
              replace BK333 := kB BK333 hb
              replace BK360 := kB BK360 hb
              replace BK368 := kB BK368 hb
              replace HB := bS HB hb
              (try clear hb)
              (try clear hb2)
              (try clear hk)
              (try clear hi)
              (try clear ho0)
              (try clear ho1)
              refine hK.out _ _ ⟨bc0 BK332, bc1 BK332, bc2 BK332, bc0 BK333, bc1 BK333, bc2 BK333⟩ (fun hHeld => ?_)
              clear hK K
              refine norm_ (a' := ?_) ?_ ?_
              rotate_left
              ·show Act.put _ (some 76) _ = _
               simp only [Act.put, List.setIfInBounds_toArray, List.set_cons_zero, List.set_cons_succ, i64_w, i32_w]
               rfl
              refine one_ (i := 3) (N := some 78) (bm 6 15) rfl rfl (by kernel_rfl) (by decide) (fun K hK => ?_)
              refine goes_ Try.func11 (by kernel_rfl) rfl #[.agg #[.int .i64 a1_0, .slice A1_1 l1_1.length c1_1, .slice A1_2 l1_2.length c1_2]] (by rfl) rfl rfl zG ?_
              with_reducible refine (laws_toMachine.calls kj34 a1_0 _ _ l1_1 _ _ l1_2 t406 t407 t410 _ ?side1 ?side2 ?side3 ?side4 A94.out).mono ?_
              (case side1 => exact cS HR1_1 HB)
              (case side2 => exact HC1_1.out)
              (case side3 => exact cS HR1_2 HB)
              (case side4 => exact HC1_2.out)
              rintro e w104 ⟨v408, v411, rfl, ho0, ho1, hb⟩
              refine ⟨_, rfl, ?_⟩
              replace HO_6 := Aside0.mk (Kd.S_below (zS HO_6) hb)
              replace HO_9 := Aside0.mk (Kd.S_below (zS HO_9) hb)
              have HO409 := Aside0.mk (Kd.R_lower (Kd.R_new' (Kd.R_new' (Kd.R_new' ho0 (Kd.R_lt (zR HO_361001))) (Kd.R_lt (zR HO_369001))) (Kd.R_lt (zR HO402))) (below_size (zB HB)))
              replace HO_361001 := Aside0.mk (Kd.R_elder' (zR HO_361001) (Kd.R_base ho0) hb)
              replace HO_369001 := Aside0.mk (Kd.R_elder' (zR HO_369001) (Kd.R_base ho0) hb)
              replace HO402 := Aside0.mk (Kd.R_elder' (zR HO402) (Kd.R_base ho0) hb)
              have HO412 := Aside0.mk (Kd.R_lower (Kd.R_new' (Kd.R_new' (Kd.R_new' ho1 (Kd.R_lt (zR HO_361002))) (Kd.R_lt (zR HO_369002))) (Kd.R_lt (zR HO405))) (below_size (zB HB)))
              replace HO_361002 := Aside0.mk (Kd.R_elder' (zR HO_361002) (Kd.R_base ho1) hb)
              replace HO_369002 := Aside0.mk (Kd.R_elder' (zR HO_369002) (Kd.R_base ho1) hb)
              replace HO405 := Aside0.mk (Kd.R_elder' (zR HO405) (Kd.R_base ho1) hb)
              replace BK332 := kB BK332 hb
              replace BK333 := kB BK333 hb
              replace BK360 := kB BK360 hb
              replace BK368 := kB BK368 hb
              replace HB := bS HB hb
              (try clear hb)
              (try clear hb2)
              (try clear hk)
              (try clear hi)
              (try clear ho0)
              (try clear ho1)
              obtain ⟨Ao105, co105, eo105⟩ := Kd.R_slice HO402.out
              (first | subst eo105 | (injection eo105 with f1_ f2_ f3_; have f4_ := f1_.symm; have f5_ := f3_.symm; clear f1_ f2_ f3_; subst f4_; subst f5_))
              obtain ⟨Ao106, co106, eo106⟩ := Kd.R_slice HO405.out
              (first | subst eo106 | (injection eo106 with f1_ f2_ f3_; have f4_ := f1_.symm; have f5_ := f3_.symm; clear f1_ f2_ f3_; subst f4_; subst f5_))
              obtain ⟨Ao107, co107, eo107⟩ := Kd.R_slice HO409.out
              (first | subst eo107 | (injection eo107 with f1_ f2_ f3_; have f4_ := f1_.symm; have f5_ := f3_.symm; clear f1_ f2_ f3_; subst f4_; subst f5_))
              obtain ⟨Ao108, co108, eo108⟩ := Kd.R_slice HO412.out
              (first | subst eo108 | (injection eo108 with f1_ f2_ f3_; have f4_ := f1_.symm; have f5_ := f3_.symm; clear f1_ f2_ f3_; subst f4_; subst f5_))
              refine hK.out _ _ ⟨bc0 BK332, bc1 BK332, bc2 BK332, bc0 BK333, bc1 BK333, bc2 BK333⟩ (fun hHeld => ?_)
              clear hK K
              refine norm_ (a' := ?_) ?_ ?_
              rotate_left
              ·show Act.put _ (some 78) _ = _
               simp only [Act.put, List.setIfInBounds_toArray, List.set_cons_zero, List.set_cons_succ, i64_w, i32_w]
               rfl
              refine one_ (i := 4) (N := some 79) (bm 6 31) rfl rfl (by kernel_rfl) (by decide) (fun K hK => ?_)
              refine goes_ Try.func19 (by kernel_rfl) rfl #[.agg #[.int .i64 t399, .slice Ao105 t400.length co105, .slice Ao106 t403.length co106], .agg #[.int .i64 t406, .slice Ao107 t407.length co107, .slice Ao108 t410.length co108]] (by rfl) rfl rfl zG ?_
              with_reducible refine (impl_FollowPairs.calls kj34 t399 _ _ t400 _ _ t403 t406 _ _ t407 _ _ t410 t413 _ ?side1 ?side2 ?side3 ?side4 ?side5 ?side6 ?side7 ?side8 A95.out).mono ?_
              (case side1 => repeat (first | exact (Kd.R_reads' HO402.out).2.2 | (with_reducible refine Kd.C_alloc ?_ _) | (with_reducible refine Kd.C_drewN ?_ _) | (with_reducible refine Kd.C_drew ?_)))
              (case side2 => exact (Kd.R_reads' HO402.out).2.1)
              (case side3 => repeat (first | exact (Kd.R_reads' HO405.out).2.2 | (with_reducible refine Kd.C_alloc ?_ _) | (with_reducible refine Kd.C_drewN ?_ _) | (with_reducible refine Kd.C_drew ?_)))
              (case side4 => exact (Kd.R_reads' HO405.out).2.1)
              (case side5 => repeat (first | exact (Kd.R_reads' HO409.out).2.2 | (with_reducible refine Kd.C_alloc ?_ _) | (with_reducible refine Kd.C_drewN ?_ _) | (with_reducible refine Kd.C_drew ?_)))
              (case side6 => exact (Kd.R_reads' HO409.out).2.1)
              (case side7 => repeat (first | exact (Kd.R_reads' HO412.out).2.2 | (with_reducible refine Kd.C_alloc ?_ _) | (with_reducible refine Kd.C_drewN ?_ _) | (with_reducible refine Kd.C_drew ?_)))
              (case side8 => exact (Kd.R_reads' HO412.out).2.1)
              rintro e w109 ⟨v414, rfl, ho0, hb⟩
              refine ⟨_, rfl, ?_⟩
              replace HO_361001 := Aside0.mk (Kd.R_below (zR HO_361001) hb)
              replace HO_361002 := Aside0.mk (Kd.R_below (zR HO_361002) hb)
              replace HO_369001 := Aside0.mk (Kd.R_below (zR HO_369001) hb)
              replace HO_369002 := Aside0.mk (Kd.R_below (zR HO_369002) hb)
              replace HO402 := Aside0.mk (Kd.R_below (zR HO402) hb)
              replace HO405 := Aside0.mk (Kd.R_below (zR HO405) hb)
              replace HO409 := Aside0.mk (Kd.R_below (zR HO409) hb)
              replace HO412 := Aside0.mk (Kd.R_below (zR HO412) hb)
              have HO415 := Aside0.mk (Kd.S_lower (Kd.S_new' (Kd.S_new' ho0 (Kd.S_lt (zS HO_6))) (Kd.S_lt (zS HO_9))) (below_size (zB HB)))
              replace HO_6 := Aside0.mk (Kd.S_elder' (zS HO_6) (Kd.S_base ho0) hb)
              replace HO_9 := Aside0.mk (Kd.S_elder' (zS HO_9) (Kd.S_base ho0) hb)
              replace BK332 := kB BK332 hb
              replace BK333 := kB BK333 hb
              replace BK360 := kB BK360 hb
              replace BK368 := kB BK368 hb
              replace HB := bS HB hb
              (try clear hb)
              (try clear hb2)
              (try clear hk)
              (try clear hi)
              (try clear ho0)
              refine hK.out _ _ ⟨bc0 BK332, bc1 BK332, bc2 BK332, bc0 BK333, bc1 BK333, bc2 BK333⟩ (fun hHeld => ?_)
              clear hK K
              refine norm_ (a' := ?_) ?_ ?_
              rotate_left
              ·show Act.put _ (some 79) _ = _
               simp only [Act.put, List.setIfInBounds_toArray, List.set_cons_zero, List.set_cons_succ, i64_w, i32_w]
               rfl
              refine pure_ (i := 5) (N := some 13) (v := ?_) (a' := ?_) (bm 6 63) rfl rfl (by kernel_rfl) (fun _ _ _ h => h) (Or.inl ⟨by rfl, ?_⟩) ?_ ?_
              rotate_left
              ·intro w'
               go_simp
               with_reducible rfl
              rotate_left
              ·simp only [Act.put, List.setIfInBounds_toArray, List.set_cons_zero, List.set_cons_succ, i64_w, i32_w]
               rfl
              refine done_ (by kernel_rfl) ?_
              try clear hHeld
              obtain ⟨Ao110, co110, eo110⟩ := Kd.S_slice HO415.out
              subst eo110
              try go_wp2_with (first | ((with_reducible refine gate_callee (f := 13) rfl ?_); refine goesL_ (some 82) rfl rfl Try.func13 (by kernel_rfl) rfl #[.slice Ao110 t413.length co110, .slice Ao71 t350.length co71] rfl zG ?_; (with_reducible refine (laws_eqIntSS.calls kj34 _ _ t413 _ _ t350 true _ ?side1 ?side2 ?side3 ?side4 A96.out).mono ?_); (case side1 => repeat (first | exact (Kd.S_reads' HO415.out).2.2 | (with_reducible refine Kd.C_alloc ?_ _) | (with_reducible refine Kd.C_drewN ?_ _) | (with_reducible refine Kd.C_drew ?_))); (case side2 => exact (Kd.S_reads' HO415.out).2.1); (case side3 => repeat (first | exact (Kd.S_reads' HO_6.out).2.2 | (with_reducible refine Kd.C_alloc ?_ _) | (with_reducible refine Kd.C_drewN ?_ _) | (with_reducible refine Kd.C_drew ?_))); (case side4 => exact (Kd.S_reads' HO_6.out).2.1); rintro e w' ⟨rfl, ⟨nd, rfl⟩⟩; refine ⟨_, rfl, ?_⟩) | ((with_reducible refine gate_callee (f := 17) rfl ?_); refine goesL_ (some 86) rfl rfl Try.func17 (by kernel_rfl) rfl #[.slice Ao70 t397.length co70, .int .i64 1] rfl (by (try simp only [List.map_toArray, List.map_cons, List.map_nil]); first | done | (rw [show t397.length = t369.length from (Kd.S_reads' HO_9.out).1.symm] <;> rfl) | rfl | (simp only [List.length_drop, List.length_take]; rfl)) ?_; (with_reducible refine (laws_heldIntSS.calls kj34 _ _ t397 1 t417 _ ?side1 ?side2 A98.out).mono ?_); (case side1 => repeat (first | exact (Kd.S_reads' HO_9.out).2.2 | (with_reducible refine Kd.C_alloc ?_ _) | (with_reducible refine Kd.C_drewN ?_ _) | (with_reducible refine Kd.C_drew ?_))); (case side2 => rw [show t397.length = t369.length from (Kd.S_reads' HO_9.out).1.symm]; exact (Kd.S_reads' HO_9.out).2.1); rintro e w' ⟨rfl, ⟨nd, rfl⟩⟩; refine ⟨_, rfl, ?_⟩))
              go_ret
              exact ⟨zE, zB HB⟩
             ·rw [if_neg c100] at H
              have c100b0 : (t417 == t396) = false := beq_eq_false_iff_ne.mpr c100
              have c100b1 : (t417 != t396) = true := bne_iff_ne.mpr c100
              exact absurd H (by simp [ht_])
           ·replace c97 := Bool.eq_false_iff.mpr c97
            subst c97
            have H1 : (some false) = some r := by rw [if_neg (show ¬ (false = true) by decide)] at H; exact H
            clear H
            have H := H1
            clear H1
            exact absurd H (by simp [ht_])
          ·rw [if_neg c92] at H
           have c92b0 : (t398 == t396) = false := beq_eq_false_iff_ne.mpr c92
           have c92b1 : (t398 != t396) = true := bne_iff_ne.mpr c92
           exact absurd H (by simp [ht_])
     ·replace c32 := Bool.eq_false_iff.mpr c32
      subst c32
      have H1 : (some false) = some r := by rw [if_neg (show ¬ (false = true) by decide)] at H; exact H
      clear H
      have H := H1
      clear H1
      exact absurd H (by simp [ht_])
    ·replace c29 := Bool.eq_false_iff.mpr c29
     subst c29
     have H1 : (some false) = some r := by rw [if_neg (show ¬ (false = true) by decide)] at H; exact H
     clear H
     have H := H1
     clear H1
     exact absurd H (by simp [ht_])
   ·replace c26 := Bool.eq_false_iff.mpr c26
    subst c26
    have H1 : (some false) = some r := by rw [if_neg (show ¬ (false = true) by decide)] at H; exact H
    clear H
    have H := H1
    clear H1
    exact absurd H (by simp [ht_])
/-- What is known of a value of type 69 that came in. -/
def W69 (x : S69) : Prop := (Lit.int .i64 x.f0).wf = true ∧ True ∧ (Lit.int .i64 x.f2).wf = true ∧ (Lit.int .i64 x.f3).wf = true

/-- The pure statement of laws_FnExactFollowPairs. -/
def laws_FnExactFollowPairs.Pure : Prop := ∀ (a0_0 : Int) (l0_1 : List Bool) (l0_2 : List (S69)) (a1_0 : Int) (l1_1 : List Bool) (l1_2 : List (S69)), (Lit.int .i64 a0_0).wf = true → l0_1.length ≤ 9223372036854775807 → (∀ x ∈ l0_1, True) → l0_2.length ≤ 9223372036854775807 → (∀ x ∈ l0_2, W69 x) → (Lit.int .i64 a1_0).wf = true → l1_1.length ≤ 9223372036854775807 → (∀ x ∈ l1_1, True) → l1_2.length ≤ 9223372036854775807 → (∀ x ∈ l1_2, W69 x) → ∃ k, laws_FnExactFollowPairs.f k a0_0 l0_1 l0_2 a1_0 l1_1 l1_2 = some true

end Go.Proofs.Ytmenijbpglknbaa.PFnExactFollowPairs
