-- WRITTEN by pp.py, this session's own wrapper around the print; not trusted: Lean checks it
import Derived.Test.YtjlaogjikkckkaaPFnExactNextPairsx0
import Derived.Test.YtjlaogjikkckkaaPFnExactNextPairsx1
import Derived.Test.YtjlaogjikkckkaaPFnExactNextPairsx2
import Derived.Test.YtjlaogjikkckkaaPFnExactNextPairsx5
import Derived.Test.YtjlaogjikkckkaaPFnExactNextPairsx7
import Derived.Test.YtjlaogjikkckkaaPFnExactNextPairsx8
namespace Go.Proofs.Ytjlaogjikkckkaa.PFnExactNextPairs
open Go.RowKit Go.Proofs.Ytjlaogjikkckkaa.Hw Go.Proofs.YtjlaogjikkckkaaW.PrintWords Go.Proofs.YtjlaogjikkckkaaW.PrintLast Go.Proofs.YtjlaogjikkckkaaW.PrintMore
attribute [local go_sem] max2_int min2_int max_two min_two max_three min_three max_four min_four   -- for this text's walks alone
set_option linter.unusedVariables false
set_option linter.unusedSimpArgs false
set_option linter.unusedSectionVars false

/-! ### laws_FnExactNextPairs: function 5 -/
def laws_FnExactNextPairs.j0 : Nat → Int → Int → List (List Int) → List (List Int) → Bool → Int → List Bool → List (S74) → Int → List Bool → List (S74) → Option (Bool)
 | 0, _, _, _, _, _, _, _, _, _, _, _ => none
 | k + 1, x2, x3, x10, x13, x71, x295000, x295001, x295002, x296000, x296001, x296002 => if x71 = true then (some false) else ((laws_markIntSS.f k x13 1).bind fun bt358 => ((laws_heldIntSS.f k bt358.2 1).bind fun t360 => (if t360 < 0 then (some false) else (if t360 = bt358.1 then ((laws_toMachine.f k x295000 x295001 x295002).bind fun bt361 => ((laws_toMachine.f k x296000 x296001 x296002).bind fun bt368 => ((impl_NextPairs.f k bt361.1 bt361.2.1 bt361.2.2 bt368.1 bt368.2.1 bt368.2.2 x2 x3).bind fun t375 => ((laws_eqIntSS.f k t375 x10).bind fun t378 => (if t378 = true then ((laws_heldIntSS.f k bt358.2 1).bind fun t379 => (if t379 < 0 then (some false) else (if t379 = bt358.1 then (some true) else (some false)))) else (some false)))))) else (some false)))))
def laws_FnExactNextPairs.f (k : Nat) (a0_0 : Int) (l0_1 : List Bool) (l0_2 : List (S74)) (a1_0 : Int) (l1_1 : List Bool) (l1_2 : List (S74)) (a2 : Int) (a3 : Int) : Option (Bool) := (laws_szMachine.f a0_0 l0_1 l0_2 1048576).bind fun t296 => (if t296 < 0 then (some true) else ((laws_szMachine.f a1_0 l1_1 l1_2 t296).bind fun t297 => (if t297 < 0 then (some true) else ((laws_toMachine.f k a0_0 l0_1 l0_2).bind fun bt298 => ((laws_toMachine.f k a1_0 l1_1 l1_2).bind fun bt305 => ((spec_NextPairs.f k bt298.1 bt298.2.1 bt298.2.2 bt305.1 bt305.2.1 bt305.2.2 a2 a3).bind fun t312 => ((laws_toMachine.f k a0_0 l0_1 l0_2).bind fun bt315 => ((laws_toMachine.f k a1_0 l1_1 l1_2).bind fun bt323 => ((impl_NextPairs.f k bt315.1 bt315.2.1 bt315.2.2 bt323.1 bt323.2.1 bt323.2.2 a2 a3).bind fun t331 => ((laws_eqIntSS.f k t331 t312).bind fun t334 => (if t334 = true then ((laws_toMachine.f k a0_0 l0_1 l0_2).bind fun bt335 => ((laws_eqMachine.f k bt315.1 bt315.2.1 bt315.2.2 bt335.1 bt335.2.1 bt335.2.2).bind fun t342 => (if t342 = true then ((laws_toMachine.f k a1_0 l1_1 l1_2).bind fun bt343 => ((laws_eqMachine.f k bt323.1 bt323.2.1 bt323.2.2 bt343.1 bt343.2.1 bt343.2.2).bind fun t350 => (if t350 = true then ((laws_markMachine.f k bt315.1 bt315.2.1 bt315.2.2 1).bind fun bt351 => ((laws_markMachine.f k bt323.1 bt323.2.1 bt323.2.2 bt351.1).bind fun bt354 => (if bt354.1 < 0 then (laws_FnExactNextPairs.j0 k a2 a3 t312 t331 true a0_0 l0_1 l0_2 a1_0 l1_1 l1_2) else ((laws_eqIntSS.f k t331 t312).bind fun t357 => (laws_FnExactNextPairs.j0 k a2 a3 t312 t331 (!t357) a0_0 l0_1 l0_2 a1_0 l1_1 l1_2))))) else (some false)))) else (some false)))) else (some false))))))))))))
theorem laws_FnExactNextPairs.mono_l : ∀ k, (∀ y0 y1 y2 y3 y4 y5 y6 y7 y8 y9 y10, LeO (laws_FnExactNextPairs.j0 k y0 y1 y2 y3 y4 y5 y6 y7 y8 y9 y10) (laws_FnExactNextPairs.j0 (k + 1) y0 y1 y2 y3 y4 y5 y6 y7 y8 y9 y10))
 | 0 => fun _ _ _ _ _ _ _ _ _ _ _ r h => by simp [laws_FnExactNextPairs.j0] at h
 | k + 1 => by
  have ih0 := laws_FnExactNextPairs.mono_l k
  ·intro y0 y1 y2 y3 y4 y5 y6 y7 y8 y9 y10
   unfold laws_FnExactNextPairs.j0
   repeat' first
   | (with_reducible exact ih0 _ _ _ _ _ _ _ _ _ _ _)
   | (with_reducible exact impl_NextPairs.mono _ _ _ _ _ _ _ _ _)
   | (with_reducible exact laws_eqIntSS.mono _ _ _)
   | (with_reducible exact laws_eqMachine.mono _ _ _ _ _ _ _)
   | (with_reducible exact laws_heldIntSS.mono _ _ _)
   | (with_reducible exact laws_markIntSS.mono _ _ _)
   | (with_reducible exact laws_markMachine.mono _ _ _ _ _)
   | (with_reducible exact laws_toMachine.mono _ _ _ _)
   | (with_reducible exact spec_NextPairs.mono _ _ _ _ _ _ _ _ _)
   | (with_reducible exact LeO.refl _)
   | (with_reducible exact LeO.none _)
   | (with_reducible refine LeO.ite ?_ ?_)
   | (with_reducible refine LeO.bind ?_ (fun _ => ?_))
   | exact ih0 _ _ _ _ _ _ _ _ _ _ _
   | exact impl_NextPairs.mono _ _ _ _ _ _ _ _ _
   | exact laws_eqIntSS.mono _ _ _
   | exact laws_eqMachine.mono _ _ _ _ _ _ _
   | exact laws_heldIntSS.mono _ _ _
   | exact laws_markIntSS.mono _ _ _
   | exact laws_markMachine.mono _ _ _ _ _
   | exact laws_toMachine.mono _ _ _ _
   | exact spec_NextPairs.mono _ _ _ _ _ _ _ _ _
   | exact LeO.none _
   | refine LeO.ite ?_ ?_
   | refine LeO.bind ?_ (fun _ => ?_)
theorem laws_FnExactNextPairs.mono : ∀ a0 a1 a2 a3 a4 a5 a6 a7 k, LeO (laws_FnExactNextPairs.f k a0 a1 a2 a3 a4 a5 a6 a7) (laws_FnExactNextPairs.f (k + 1) a0 a1 a2 a3 a4 a5 a6 a7) := by
 intro a0 a1 a2 a3 a4 a5 a6 a7 k
 have ih0 := laws_FnExactNextPairs.mono_l k
 unfold laws_FnExactNextPairs.f
 repeat' first
   | (with_reducible exact ih0 _ _ _ _ _ _ _ _ _ _ _)
   | (with_reducible exact impl_NextPairs.mono _ _ _ _ _ _ _ _ _)
   | (with_reducible exact laws_eqIntSS.mono _ _ _)
   | (with_reducible exact laws_eqMachine.mono _ _ _ _ _ _ _)
   | (with_reducible exact laws_heldIntSS.mono _ _ _)
   | (with_reducible exact laws_markIntSS.mono _ _ _)
   | (with_reducible exact laws_markMachine.mono _ _ _ _ _)
   | (with_reducible exact laws_toMachine.mono _ _ _ _)
   | (with_reducible exact spec_NextPairs.mono _ _ _ _ _ _ _ _ _)
   | (with_reducible exact LeO.refl _)
   | (with_reducible exact LeO.none _)
   | (with_reducible refine LeO.ite ?_ ?_)
   | (with_reducible refine LeO.bind ?_ (fun _ => ?_))
   | exact ih0 _ _ _ _ _ _ _ _ _ _ _
   | exact impl_NextPairs.mono _ _ _ _ _ _ _ _ _
   | exact laws_eqIntSS.mono _ _ _
   | exact laws_eqMachine.mono _ _ _ _ _ _ _
   | exact laws_heldIntSS.mono _ _ _
   | exact laws_markIntSS.mono _ _ _
   | exact laws_markMachine.mono _ _ _ _ _
   | exact laws_toMachine.mono _ _ _ _
   | exact spec_NextPairs.mono _ _ _ _ _ _ _ _ _
   | exact LeO.none _
   | refine LeO.ite ?_ ?_
   | refine LeO.bind ?_ (fun _ => ?_)
def laws_FnExactNextPairs.T8 : Bool × List (List Nat × List Nat) := (true, [([], []), ([0], [0]), ([], []), ([2, 1], [2]), ([], []), ([], []), ([1, 3, 4, 5, 3], [1, 3, 4, 5]), ([6, 6, 0, 1, 2, 3, 4, 5, 6], [6])])
def laws_FnExactNextPairs.B8 : List Nat := [0, 1, 0, 7, 0, 0, 63, 127]
theorem laws_FnExactNextPairs.tab8 : rtab .any (opsOf Try.f5 8) = laws_FnExactNextPairs.T8 := by kernel_rfl
theorem laws_FnExactNextPairs.bits8 : waitsOk laws_FnExactNextPairs.T8.2 laws_FnExactNextPairs.B8 = true := by kernel_rfl
def laws_FnExactNextPairs.T31 : Bool × List (List Nat × List Nat) := (true, [([], []), ([0], [0]), ([], []), ([2, 1], [2]), ([], []), ([], []), ([1, 3, 4, 5, 3], [1, 3, 4, 5]), ([6, 6, 0, 1, 2, 3, 4, 5, 6], [6])])
def laws_FnExactNextPairs.B31 : List Nat := [0, 1, 0, 7, 0, 0, 63, 127]
theorem laws_FnExactNextPairs.tab31 : rtab .any (opsOf Try.f5 31) = laws_FnExactNextPairs.T31 := by kernel_rfl
theorem laws_FnExactNextPairs.bits31 : waitsOk laws_FnExactNextPairs.T31.2 laws_FnExactNextPairs.B31 = true := by kernel_rfl
set_option maxHeartbeats 8000000 in
set_option maxRecDepth 100000 in
theorem laws_FnExactNextPairs.calls (k : Nat) (a0_0 : Int) (A0_1 : Option Addr) (c0_1 : Nat) (l0_1 : List Bool) (A0_2 : Option Addr) (c0_2 : Nat) (l0_2 : List (S74)) (a1_0 : Int) (A1_1 : Option Addr) (c1_1 : Nat) (l1_1 : List Bool) (A1_2 : Option Addr) (c1_2 : Nat) (l1_2 : List (S74)) (a2 : Int) (a3 : Int) (r : Bool) (w : World) (hr0_1 : Kd.C Kd.bool w A0_1 l0_1.length l0_1) (hc0_1 : l0_1.length ≤ c0_1) (hr0_2 : Kd.C k74 w A0_2 l0_2.length l0_2) (hc0_2 : l0_2.length ≤ c0_2) (hr1_1 : Kd.C Kd.bool w A1_1 l1_1.length l1_1) (hc1_1 : l1_1.length ≤ c1_1) (hr1_2 : Kd.C k74 w A1_2 l1_2.length l1_2) (hc1_2 : l1_2.length ≤ c1_2) (ht_ : r = true) (h : laws_FnExactNextPairs.f k a0_0 l0_1 l0_2 a1_0 l1_1 l1_2 a2 a3 = some r) :
  Calls Try.prog 5 #[.agg #[.int .i64 a0_0, .slice A0_1 l0_1.length c0_1, .slice A0_2 l0_2.length c0_2], .agg #[.int .i64 a1_0, .slice A1_1 l1_1.length c1_1, .slice A1_2 l1_2.length c1_2], .int .i64 a2, .int .i64 a3] w fun e w' => e = .returned (.bool r) ∧ Below w.heap.size w w' := by
 have hu25 := Try.underlying25
 have hu29 := Try.underlying29
 have HR0_1 := Aside0.mk hr0_1
 have HC0_1 := Aside0.mk hc0_1
 clear hr0_1 hc0_1
 have HR0_2 := Aside0.mk hr0_2
 have HC0_2 := Aside0.mk hc0_2
 clear hr0_2 hc0_2
 have HR1_1 := Aside0.mk hr1_1
 have HC1_1 := Aside0.mk hc1_1
 clear hr1_1 hc1_1
 have HR1_2 := Aside0.mk hr1_2
 have HC1_2 := Aside0.mk hc1_2
 clear hr1_2 hc1_2
 have HB := Aside0.mk (Below.refl w.heap.size w)
 have H : ((laws_szMachine.f a0_0 l0_1 l0_2 1048576).bind fun t296 => (if t296 < 0 then (some true) else ((laws_szMachine.f a1_0 l1_1 l1_2 t296).bind fun t297 => (if t297 < 0 then (some true) else ((laws_toMachine.f k a0_0 l0_1 l0_2).bind fun bt298 => ((laws_toMachine.f k a1_0 l1_1 l1_2).bind fun bt305 => ((spec_NextPairs.f k bt298.1 bt298.2.1 bt298.2.2 bt305.1 bt305.2.1 bt305.2.2 a2 a3).bind fun t312 => ((laws_toMachine.f k a0_0 l0_1 l0_2).bind fun bt315 => ((laws_toMachine.f k a1_0 l1_1 l1_2).bind fun bt323 => ((impl_NextPairs.f k bt315.1 bt315.2.1 bt315.2.2 bt323.1 bt323.2.1 bt323.2.2 a2 a3).bind fun t331 => ((laws_eqIntSS.f k t331 t312).bind fun t334 => (if t334 = true then ((laws_toMachine.f k a0_0 l0_1 l0_2).bind fun bt335 => ((laws_eqMachine.f k bt315.1 bt315.2.1 bt315.2.2 bt335.1 bt335.2.1 bt335.2.2).bind fun t342 => (if t342 = true then ((laws_toMachine.f k a1_0 l1_1 l1_2).bind fun bt343 => ((laws_eqMachine.f k bt323.1 bt323.2.1 bt323.2.2 bt343.1 bt343.2.1 bt343.2.2).bind fun t350 => (if t350 = true then ((laws_markMachine.f k bt315.1 bt315.2.1 bt315.2.2 1).bind fun bt351 => ((laws_markMachine.f k bt323.1 bt323.2.1 bt323.2.2 bt351.1).bind fun bt354 => (if bt354.1 < 0 then (laws_FnExactNextPairs.j0 k a2 a3 t312 t331 true a0_0 l0_1 l0_2 a1_0 l1_1 l1_2) else ((laws_eqIntSS.f k t331 t312).bind fun t357 => (laws_FnExactNextPairs.j0 k a2 a3 t312 t331 (!t357) a0_0 l0_1 l0_2 a1_0 l1_1 l1_2))))) else (some false)))) else (some false)))) else (some false))))))))))))) = some r := h
 clear h
 obtain ⟨t296, A5, H⟩ := bindS H
 by_cases c6 : t296 < 0
 ·rw [if_pos c6] at H
  have c6b0 : decide (t296 < 0) = true := decide_eq_true c6
  clear c6
  obtain rfl := Option.some.inj H
  go_enter Try.func5, Try.ntmps5
  go_wp2_with (first | ((with_reducible refine gate_dst (N := 4) rfl ?_); refine box_event ?hg (N := 4) ?hd (cs := #[.int .i64 a0_0, .slice A0_1 l0_1.length c0_1, .slice A0_2 l0_2.length c0_2]) (t := 25) ?hr ?_; (case hd => rfl); (case hg => rfl); (case hr => first | (go_simp; done) | (go_simp; rfl)); intro gb294 hg w7 hbox hb; have BK294 := Aside0.mk (hbox); have GW294 := gS HB hg; have GE294 := gS HB hg; replace HB := bS HB hb; clear hb hbox hg) | ((with_reducible refine gate_dst (N := 5) rfl ?_); refine box_event ?hg (N := 5) ?hd (cs := #[.int .i64 a1_0, .slice A1_1 l1_1.length c1_1, .slice A1_2 l1_2.length c1_2]) (t := 25) ?hr ?_; (case hd => rfl); (case hg => rfl); (case hr => first | (go_simp; done) | (go_simp; rfl)); intro gb295 hg w8 hbox hb; have BK295 := Aside0.mk (hbox); have GW295 := gS HB hg; have GE295 := gS HB hg; replace HB := bS HB hb; have NB294_295 := nL BK294 hg; have NB295_294 := nR BK294 hg; replace BK294 := kB BK294 hb; clear hb hbox hg; have hnb9 := NB294_295.out; have hnc9 := NB295_294.out; have hcz10_0 := bc0 BK294; have hcz10_1 := bc1 BK294; have hcz10_2 := bc2 BK294; have hfz10_0 := bf BK294 0; have hfz10_1 := bf BK294 1; have hfz10_2 := bf BK294 2) | ((with_reducible refine gate_callee (f := 6) rfl ?_); refine goesL_ (some 20) rfl rfl Try.func6 (by kernel_rfl) rfl #[.agg #[.int .i64 a0_0, .slice A0_1 l0_1.length c0_1, .slice A0_2 l0_2.length c0_2], .int .i64 1048576] rfl zG ?_; (with_reducible refine (laws_szMachine.calls a0_0 _ _ l0_1 _ _ l0_2 1048576 t296 _ ?side1 ?side2 ?side3 ?side4 A5.out).mono ?_); (case side1 => exact cS HR0_1 HB); (case side2 => exact HC0_1.out); (case side3 => exact cS HR0_2 HB); (case side4 => exact HC0_2.out); rintro e w11 ⟨rfl, hb⟩; refine ⟨_, rfl, ?_⟩; replace BK294 := kB BK294 hb; replace BK295 := kB BK295 hb; replace HB := bS HB hb; (try clear hb)))
  go_ret
  exact ⟨zE, zB HB⟩
 ·rw [if_neg c6] at H
  have c6b0 : decide (t296 < 0) = false := decide_eq_false c6
  clear c6
  obtain ⟨t297, A12, H⟩ := bindS H
  by_cases c13 : t297 < 0
  ·rw [if_pos c13] at H
   have c13b0 : decide (t297 < 0) = true := decide_eq_true c13
   clear c13
   obtain rfl := Option.some.inj H
   go_enter Try.func5, Try.ntmps5
   go_wp2_with (first | ((with_reducible refine gate_dst (N := 4) rfl ?_); refine box_event ?hg (N := 4) ?hd (cs := #[.int .i64 a0_0, .slice A0_1 l0_1.length c0_1, .slice A0_2 l0_2.length c0_2]) (t := 25) ?hr ?_; (case hd => rfl); (case hg => rfl); (case hr => first | (go_simp; done) | (go_simp; rfl)); intro gb294 hg w14 hbox hb; have BK294 := Aside0.mk (hbox); have GW294 := gS HB hg; have GE294 := gS HB hg; replace HB := bS HB hb; clear hb hbox hg) | ((with_reducible refine gate_dst (N := 5) rfl ?_); refine box_event ?hg (N := 5) ?hd (cs := #[.int .i64 a1_0, .slice A1_1 l1_1.length c1_1, .slice A1_2 l1_2.length c1_2]) (t := 25) ?hr ?_; (case hd => rfl); (case hg => rfl); (case hr => first | (go_simp; done) | (go_simp; rfl)); intro gb295 hg w15 hbox hb; have BK295 := Aside0.mk (hbox); have GW295 := gS HB hg; have GE295 := gS HB hg; replace HB := bS HB hb; have NB294_295 := nL BK294 hg; have NB295_294 := nR BK294 hg; replace BK294 := kB BK294 hb; clear hb hbox hg; have hnb16 := NB294_295.out; have hnc16 := NB295_294.out; have hcz17_0 := bc0 BK294; have hcz17_1 := bc1 BK294; have hcz17_2 := bc2 BK294; have hfz17_0 := bf BK294 0; have hfz17_1 := bf BK294 1; have hfz17_2 := bf BK294 2) | ((with_reducible refine gate_callee (f := 6) rfl ?_); refine goesL_ (some 20) rfl rfl Try.func6 (by kernel_rfl) rfl #[.agg #[.int .i64 a0_0, .slice A0_1 l0_1.length c0_1, .slice A0_2 l0_2.length c0_2], .int .i64 1048576] rfl zG ?_; (with_reducible refine (laws_szMachine.calls a0_0 _ _ l0_1 _ _ l0_2 1048576 t296 _ ?side1 ?side2 ?side3 ?side4 A5.out).mono ?_); (case side1 => exact cS HR0_1 HB); (case side2 => exact HC0_1.out); (case side3 => exact cS HR0_2 HB); (case side4 => exact HC0_2.out); rintro e w18 ⟨rfl, hb⟩; refine ⟨_, rfl, ?_⟩; replace BK294 := kB BK294 hb; replace BK295 := kB BK295 hb; replace HB := bS HB hb; (try clear hb); have hcz19_0 := bc0 BK295; have hcz19_1 := bc1 BK295; have hcz19_2 := bc2 BK295; have hfz19_0 := bf BK295 0; have hfz19_1 := bf BK295 1; have hfz19_2 := bf BK295 2) | ((with_reducible refine gate_callee (f := 6) rfl ?_); refine goesL_ (some 25) rfl rfl Try.func6 (by kernel_rfl) rfl #[.agg #[.int .i64 a1_0, .slice A1_1 l1_1.length c1_1, .slice A1_2 l1_2.length c1_2], .int .i64 t296] rfl zG ?_; (with_reducible refine (laws_szMachine.calls a1_0 _ _ l1_1 _ _ l1_2 t296 t297 _ ?side1 ?side2 ?side3 ?side4 A12.out).mono ?_); (case side1 => exact cS HR1_1 HB); (case side2 => exact HC1_1.out); (case side3 => exact cS HR1_2 HB); (case side4 => exact HC1_2.out); rintro e w20 ⟨rfl, hb⟩; refine ⟨_, rfl, ?_⟩; replace BK294 := kB BK294 hb; replace BK295 := kB BK295 hb; replace HB := bS HB hb; (try clear hb)))
   go_ret
   exact ⟨zE, zB HB⟩
  ·rw [if_neg c13] at H
   have c13b0 : decide (t297 < 0) = false := decide_eq_false c13
   clear c13
   replace H := Option.bind_eq_some_iff.mp H
   obtain ⟨⟨t298, t299, t302⟩, A210, H⟩ := H
   replace H : ((laws_toMachine.f k a1_0 l1_1 l1_2).bind fun bt305 => ((spec_NextPairs.f k t298 t299 t302 bt305.1 bt305.2.1 bt305.2.2 a2 a3).bind fun t312 => ((laws_toMachine.f k a0_0 l0_1 l0_2).bind fun bt315 => ((laws_toMachine.f k a1_0 l1_1 l1_2).bind fun bt323 => ((impl_NextPairs.f k bt315.1 bt315.2.1 bt315.2.2 bt323.1 bt323.2.1 bt323.2.2 a2 a3).bind fun t331 => ((laws_eqIntSS.f k t331 t312).bind fun t334 => (if t334 = true then ((laws_toMachine.f k a0_0 l0_1 l0_2).bind fun bt335 => ((laws_eqMachine.f k bt315.1 bt315.2.1 bt315.2.2 bt335.1 bt335.2.1 bt335.2.2).bind fun t342 => (if t342 = true then ((laws_toMachine.f k a1_0 l1_1 l1_2).bind fun bt343 => ((laws_eqMachine.f k bt323.1 bt323.2.1 bt323.2.2 bt343.1 bt343.2.1 bt343.2.2).bind fun t350 => (if t350 = true then ((laws_markMachine.f k bt315.1 bt315.2.1 bt315.2.2 1).bind fun bt351 => ((laws_markMachine.f k bt323.1 bt323.2.1 bt323.2.2 bt351.1).bind fun bt354 => (if bt354.1 < 0 then (laws_FnExactNextPairs.j0 k a2 a3 t312 t331 true a0_0 l0_1 l0_2 a1_0 l1_1 l1_2) else ((laws_eqIntSS.f k t331 t312).bind fun t357 => (laws_FnExactNextPairs.j0 k a2 a3 t312 t331 (!t357) a0_0 l0_1 l0_2 a1_0 l1_1 l1_2))))) else (some false)))) else (some false)))) else (some false)))))))) = some r := H
   have A21 := Aside0.mk A210
   clear A210
   replace H := Option.bind_eq_some_iff.mp H
   obtain ⟨⟨t305, t306, t309⟩, A220, H⟩ := H
   replace H : ((spec_NextPairs.f k t298 t299 t302 t305 t306 t309 a2 a3).bind fun t312 => ((laws_toMachine.f k a0_0 l0_1 l0_2).bind fun bt315 => ((laws_toMachine.f k a1_0 l1_1 l1_2).bind fun bt323 => ((impl_NextPairs.f k bt315.1 bt315.2.1 bt315.2.2 bt323.1 bt323.2.1 bt323.2.2 a2 a3).bind fun t331 => ((laws_eqIntSS.f k t331 t312).bind fun t334 => (if t334 = true then ((laws_toMachine.f k a0_0 l0_1 l0_2).bind fun bt335 => ((laws_eqMachine.f k bt315.1 bt315.2.1 bt315.2.2 bt335.1 bt335.2.1 bt335.2.2).bind fun t342 => (if t342 = true then ((laws_toMachine.f k a1_0 l1_1 l1_2).bind fun bt343 => ((laws_eqMachine.f k bt323.1 bt323.2.1 bt323.2.2 bt343.1 bt343.2.1 bt343.2.2).bind fun t350 => (if t350 = true then ((laws_markMachine.f k bt315.1 bt315.2.1 bt315.2.2 1).bind fun bt351 => ((laws_markMachine.f k bt323.1 bt323.2.1 bt323.2.2 bt351.1).bind fun bt354 => (if bt354.1 < 0 then (laws_FnExactNextPairs.j0 k a2 a3 t312 t331 true a0_0 l0_1 l0_2 a1_0 l1_1 l1_2) else ((laws_eqIntSS.f k t331 t312).bind fun t357 => (laws_FnExactNextPairs.j0 k a2 a3 t312 t331 (!t357) a0_0 l0_1 l0_2 a1_0 l1_1 l1_2))))) else (some false)))) else (some false)))) else (some false))))))) = some r := H
   have A22 := Aside0.mk A220
   clear A220
   obtain ⟨t312, A23, H⟩ := bindS H
   replace H := Option.bind_eq_some_iff.mp H
   obtain ⟨⟨t315, t316, t319⟩, A240, H⟩ := H
   replace H : ((laws_toMachine.f k a1_0 l1_1 l1_2).bind fun bt323 => ((impl_NextPairs.f k t315 t316 t319 bt323.1 bt323.2.1 bt323.2.2 a2 a3).bind fun t331 => ((laws_eqIntSS.f k t331 t312).bind fun t334 => (if t334 = true then ((laws_toMachine.f k a0_0 l0_1 l0_2).bind fun bt335 => ((laws_eqMachine.f k t315 t316 t319 bt335.1 bt335.2.1 bt335.2.2).bind fun t342 => (if t342 = true then ((laws_toMachine.f k a1_0 l1_1 l1_2).bind fun bt343 => ((laws_eqMachine.f k bt323.1 bt323.2.1 bt323.2.2 bt343.1 bt343.2.1 bt343.2.2).bind fun t350 => (if t350 = true then ((laws_markMachine.f k t315 t316 t319 1).bind fun bt351 => ((laws_markMachine.f k bt323.1 bt323.2.1 bt323.2.2 bt351.1).bind fun bt354 => (if bt354.1 < 0 then (laws_FnExactNextPairs.j0 k a2 a3 t312 t331 true a0_0 l0_1 l0_2 a1_0 l1_1 l1_2) else ((laws_eqIntSS.f k t331 t312).bind fun t357 => (laws_FnExactNextPairs.j0 k a2 a3 t312 t331 (!t357) a0_0 l0_1 l0_2 a1_0 l1_1 l1_2))))) else (some false)))) else (some false)))) else (some false))))) = some r := H
   have A24 := Aside0.mk A240
   clear A240
   replace H := Option.bind_eq_some_iff.mp H
   obtain ⟨⟨t323, t324, t327⟩, A250, H⟩ := H
   replace H : ((impl_NextPairs.f k t315 t316 t319 t323 t324 t327 a2 a3).bind fun t331 => ((laws_eqIntSS.f k t331 t312).bind fun t334 => (if t334 = true then ((laws_toMachine.f k a0_0 l0_1 l0_2).bind fun bt335 => ((laws_eqMachine.f k t315 t316 t319 bt335.1 bt335.2.1 bt335.2.2).bind fun t342 => (if t342 = true then ((laws_toMachine.f k a1_0 l1_1 l1_2).bind fun bt343 => ((laws_eqMachine.f k t323 t324 t327 bt343.1 bt343.2.1 bt343.2.2).bind fun t350 => (if t350 = true then ((laws_markMachine.f k t315 t316 t319 1).bind fun bt351 => ((laws_markMachine.f k t323 t324 t327 bt351.1).bind fun bt354 => (if bt354.1 < 0 then (laws_FnExactNextPairs.j0 k a2 a3 t312 t331 true a0_0 l0_1 l0_2 a1_0 l1_1 l1_2) else ((laws_eqIntSS.f k t331 t312).bind fun t357 => (laws_FnExactNextPairs.j0 k a2 a3 t312 t331 (!t357) a0_0 l0_1 l0_2 a1_0 l1_1 l1_2))))) else (some false)))) else (some false)))) else (some false)))) = some r := H
   have A25 := Aside0.mk A250
   clear A250
   obtain ⟨t331, A26, H⟩ := bindS H
   obtain ⟨t334, A27, H⟩ := bindS H
   by_cases c28 : t334 = true
   ·subst c28
    have H1 : ((laws_toMachine.f k a0_0 l0_1 l0_2).bind fun bt335 => ((laws_eqMachine.f k t315 t316 t319 bt335.1 bt335.2.1 bt335.2.2).bind fun t342 => (if t342 = true then ((laws_toMachine.f k a1_0 l1_1 l1_2).bind fun bt343 => ((laws_eqMachine.f k t323 t324 t327 bt343.1 bt343.2.1 bt343.2.2).bind fun t350 => (if t350 = true then ((laws_markMachine.f k t315 t316 t319 1).bind fun bt351 => ((laws_markMachine.f k t323 t324 t327 bt351.1).bind fun bt354 => (if bt354.1 < 0 then (laws_FnExactNextPairs.j0 k a2 a3 t312 t331 true a0_0 l0_1 l0_2 a1_0 l1_1 l1_2) else ((laws_eqIntSS.f k t331 t312).bind fun t357 => (laws_FnExactNextPairs.j0 k a2 a3 t312 t331 (!t357) a0_0 l0_1 l0_2 a1_0 l1_1 l1_2))))) else (some false)))) else (some false)))) = some r := by rw [if_pos rfl] at H; exact H
    clear H
    have H := H1
    clear H1
    replace H := Option.bind_eq_some_iff.mp H
    obtain ⟨⟨t335, t336, t339⟩, A290, H⟩ := H
    replace H : ((laws_eqMachine.f k t315 t316 t319 t335 t336 t339).bind fun t342 => (if t342 = true then ((laws_toMachine.f k a1_0 l1_1 l1_2).bind fun bt343 => ((laws_eqMachine.f k t323 t324 t327 bt343.1 bt343.2.1 bt343.2.2).bind fun t350 => (if t350 = true then ((laws_markMachine.f k t315 t316 t319 1).bind fun bt351 => ((laws_markMachine.f k t323 t324 t327 bt351.1).bind fun bt354 => (if bt354.1 < 0 then (laws_FnExactNextPairs.j0 k a2 a3 t312 t331 true a0_0 l0_1 l0_2 a1_0 l1_1 l1_2) else ((laws_eqIntSS.f k t331 t312).bind fun t357 => (laws_FnExactNextPairs.j0 k a2 a3 t312 t331 (!t357) a0_0 l0_1 l0_2 a1_0 l1_1 l1_2))))) else (some false)))) else (some false))) = some r := H
    have A29 := Aside0.mk A290
    clear A290
    obtain ⟨t342, A30, H⟩ := bindS H
    by_cases c31 : t342 = true
    ·subst c31
     have H1 : ((laws_toMachine.f k a1_0 l1_1 l1_2).bind fun bt343 => ((laws_eqMachine.f k t323 t324 t327 bt343.1 bt343.2.1 bt343.2.2).bind fun t350 => (if t350 = true then ((laws_markMachine.f k t315 t316 t319 1).bind fun bt351 => ((laws_markMachine.f k t323 t324 t327 bt351.1).bind fun bt354 => (if bt354.1 < 0 then (laws_FnExactNextPairs.j0 k a2 a3 t312 t331 true a0_0 l0_1 l0_2 a1_0 l1_1 l1_2) else ((laws_eqIntSS.f k t331 t312).bind fun t357 => (laws_FnExactNextPairs.j0 k a2 a3 t312 t331 (!t357) a0_0 l0_1 l0_2 a1_0 l1_1 l1_2))))) else (some false)))) = some r := by rw [if_pos rfl] at H; exact H
     clear H
     have H := H1
     clear H1
     replace H := Option.bind_eq_some_iff.mp H
     obtain ⟨⟨t343, t344, t347⟩, A320, H⟩ := H
     replace H : ((laws_eqMachine.f k t323 t324 t327 t343 t344 t347).bind fun t350 => (if t350 = true then ((laws_markMachine.f k t315 t316 t319 1).bind fun bt351 => ((laws_markMachine.f k t323 t324 t327 bt351.1).bind fun bt354 => (if bt354.1 < 0 then (laws_FnExactNextPairs.j0 k a2 a3 t312 t331 true a0_0 l0_1 l0_2 a1_0 l1_1 l1_2) else ((laws_eqIntSS.f k t331 t312).bind fun t357 => (laws_FnExactNextPairs.j0 k a2 a3 t312 t331 (!t357) a0_0 l0_1 l0_2 a1_0 l1_1 l1_2))))) else (some false))) = some r := H
     have A32 := Aside0.mk A320
     clear A320
     obtain ⟨t350, A33, H⟩ := bindS H
     by_cases c34 : t350 = true
     ·subst c34
      have H1 : ((laws_markMachine.f k t315 t316 t319 1).bind fun bt351 => ((laws_markMachine.f k t323 t324 t327 bt351.1).bind fun bt354 => (if bt354.1 < 0 then (laws_FnExactNextPairs.j0 k a2 a3 t312 t331 true a0_0 l0_1 l0_2 a1_0 l1_1 l1_2) else ((laws_eqIntSS.f k t331 t312).bind fun t357 => (laws_FnExactNextPairs.j0 k a2 a3 t312 t331 (!t357) a0_0 l0_1 l0_2 a1_0 l1_1 l1_2))))) = some r := by rw [if_pos rfl] at H; exact H
      clear H
      have H := H1
      clear H1
      replace H := Option.bind_eq_some_iff.mp H
      obtain ⟨⟨t351, t352, t353⟩, A350, H⟩ := H
      replace H : ((laws_markMachine.f k t323 t324 t327 t351).bind fun bt354 => (if bt354.1 < 0 then (laws_FnExactNextPairs.j0 k a2 a3 t312 t331 true a0_0 l0_1 l0_2 a1_0 l1_1 l1_2) else ((laws_eqIntSS.f k t331 t312).bind fun t357 => (laws_FnExactNextPairs.j0 k a2 a3 t312 t331 (!t357) a0_0 l0_1 l0_2 a1_0 l1_1 l1_2)))) = some r := H
      have A35 := Aside0.mk A350
      clear A350
      replace H := Option.bind_eq_some_iff.mp H
      obtain ⟨⟨t354, t355, t356⟩, A360, H⟩ := H
      replace H : (if t354 < 0 then (laws_FnExactNextPairs.j0 k a2 a3 t312 t331 true a0_0 l0_1 l0_2 a1_0 l1_1 l1_2) else ((laws_eqIntSS.f k t331 t312).bind fun t357 => (laws_FnExactNextPairs.j0 k a2 a3 t312 t331 (!t357) a0_0 l0_1 l0_2 a1_0 l1_1 l1_2))) = some r := H
      have A36 := Aside0.mk A360
      clear A360
      have HC37 := Aside0.mk H
      clear H
      go_enter Try.func5, Try.ntmps5
      try go_wp2_with (first | ((with_reducible refine gate_dst (N := 4) rfl ?_); refine box_event ?hg (N := 4) ?hd (cs := #[.int .i64 a0_0, .slice A0_1 l0_1.length c0_1, .slice A0_2 l0_2.length c0_2]) (t := 25) ?hr ?_; (case hd => rfl); (case hg => rfl); (case hr => first | (go_simp; done) | (go_simp; rfl)); intro gb294 hg w38 hbox hb; have BK294 := Aside0.mk (hbox); have GW294 := gS HB hg; have GE294 := gS HB hg; replace HB := bS HB hb; clear hb hbox hg) | ((with_reducible refine gate_dst (N := 5) rfl ?_); refine box_event ?hg (N := 5) ?hd (cs := #[.int .i64 a1_0, .slice A1_1 l1_1.length c1_1, .slice A1_2 l1_2.length c1_2]) (t := 25) ?hr ?_; (case hd => rfl); (case hg => rfl); (case hr => first | (go_simp; done) | (go_simp; rfl)); intro gb295 hg w39 hbox hb; have BK295 := Aside0.mk (hbox); have GW295 := gS HB hg; have GE295 := gS HB hg; replace HB := bS HB hb; have NB294_295 := nL BK294 hg; have NB295_294 := nR BK294 hg; replace BK294 := kB BK294 hb; clear hb hbox hg; have hnb40 := NB294_295.out; have hnc40 := NB295_294.out; have hcz41_0 := bc0 BK294; have hcz41_1 := bc1 BK294; have hcz41_2 := bc2 BK294; have hfz41_0 := bf BK294 0; have hfz41_1 := bf BK294 1; have hfz41_2 := bf BK294 2) | ((with_reducible refine gate_callee (f := 6) rfl ?_); refine goesL_ (some 20) rfl rfl Try.func6 (by kernel_rfl) rfl #[.agg #[.int .i64 a0_0, .slice A0_1 l0_1.length c0_1, .slice A0_2 l0_2.length c0_2], .int .i64 1048576] rfl zG ?_; (with_reducible refine (laws_szMachine.calls a0_0 _ _ l0_1 _ _ l0_2 1048576 t296 _ ?side1 ?side2 ?side3 ?side4 A5.out).mono ?_); (case side1 => exact cS HR0_1 HB); (case side2 => exact HC0_1.out); (case side3 => exact cS HR0_2 HB); (case side4 => exact HC0_2.out); rintro e w42 ⟨rfl, hb⟩; refine ⟨_, rfl, ?_⟩; replace BK294 := kB BK294 hb; replace BK295 := kB BK295 hb; replace HB := bS HB hb; (try clear hb); have hcz43_0 := bc0 BK295; have hcz43_1 := bc1 BK295; have hcz43_2 := bc2 BK295; have hfz43_0 := bf BK295 0; have hfz43_1 := bf BK295 1; have hfz43_2 := bf BK295 2) | ((with_reducible refine gate_callee (f := 6) rfl ?_); refine goesL_ (some 25) rfl rfl Try.func6 (by kernel_rfl) rfl #[.agg #[.int .i64 a1_0, .slice A1_1 l1_1.length c1_1, .slice A1_2 l1_2.length c1_2], .int .i64 t296] rfl zG ?_; (with_reducible refine (laws_szMachine.calls a1_0 _ _ l1_1 _ _ l1_2 t296 t297 _ ?side1 ?side2 ?side3 ?side4 A12.out).mono ?_); (case side1 => exact cS HR1_1 HB); (case side2 => exact HC1_1.out); (case side3 => exact cS HR1_2 HB); (case side4 => exact HC1_2.out); rintro e w44 ⟨rfl, hb⟩; refine ⟨_, rfl, ?_⟩; replace BK294 := kB BK294 hb; replace BK295 := kB BK295 hb; replace HB := bS HB hb; (try clear hb)))
      replace BK294 := Aside0.mk (blk_drew BK294.out)
      replace BK295 := Aside0.mk (blk_drew BK295.out)
      replace HB := Aside0.mk (below_drew1 HB.out)
      refine start_ (n := 8) (S := fun w' => w'.cell? ⟨gb294, 0, none⟩ = some (.int .i64 a0_0) ∧ w'.cell? ⟨gb294, 1, none⟩ = some (.slice A0_1 l0_1.length c0_1) ∧ w'.cell? ⟨gb294, 2, none⟩ = some (.slice A0_2 l0_2.length c0_2) ∧ w'.cell? ⟨gb295, 0, none⟩ = some (.int .i64 a1_0) ∧ w'.cell? ⟨gb295, 1, none⟩ = some (.slice A1_1 l1_1.length c1_1) ∧ w'.cell? ⟨gb295, 2, none⟩ = some (.slice A1_2 l1_2.length c1_2)) (ds := []) (bm 8 0) (by kernel_rfl) rfl (bm0 _) ⟨bc0 BK294, bc1 BK294, bc2 BK294, bc0 BK295, bc1 BK295, bc2 BK295⟩ (fun hHeld => ?_); refine with_tabW laws_FnExactNextPairs.tab8 laws_FnExactNextPairs.bits8 (fun HT_ HW_ => ?_)
      generalize w44.drew = w45 at BK294 BK295 HB hHeld ⊢
      refine pU 4 (some 32) (bm 8 16) HT_ rfl rfl ?_
      refine pU 5 (some 33) (bm 8 48) HT_ rfl rfl ?_
      refine tU 0 (some 28) (bm 8 49) HT_ HW_ rfl rfl hHeld ?_
      refine tU 2 (some 30) (bm 8 53) HT_ HW_ rfl rfl hHeld ?_
      refine one_ (i := 1) (N := some 29) (bm 8 55) rfl rfl (one_of HT_.out (by kernel_rfl)) (by decide) (fun K hK => ?_)
      refine goes_ Try.func8 (by kernel_rfl) rfl #[.agg #[.int .i64 a0_0, .slice A0_1 l0_1.length c0_1, .slice A0_2 l0_2.length c0_2]] (by rfl) rfl rfl zG ?_
      with_reducible refine (laws_toMachine.calls k a0_0 _ _ l0_1 _ _ l0_2 t298 t299 t302 _ ?side1 ?side2 ?side3 ?side4 A21.out).mono ?_
      (case side1 => exact cS HR0_1 HB)
      (case side2 => exact HC0_1.out)
      (case side3 => exact cS HR0_2 HB)
      (case side4 => exact HC0_2.out)
      rintro e w46 ⟨v300, v303, rfl, ho0, ho1, hb⟩
      refine ⟨_, rfl, ?_⟩
      have HO301 := Aside0.mk (Kd.R_lower ho0 (below_size (zB HB)))
      have HO304 := Aside0.mk (Kd.R_lower ho1 (below_size (zB HB)))
      replace BK294 := kB BK294 hb
      replace BK295 := kB BK295 hb
      replace HB := bS HB hb
      (try clear hb)
      (try clear hb2)
      (try clear hk)
      (try clear hi)
      (try clear ho0)
      (try clear ho1)
      refine hK.out _ _ ⟨bc0 BK294, bc1 BK294, bc2 BK294, bc0 BK295, bc1 BK295, bc2 BK295⟩ (fun hHeld => ?_)
      clear hK K
      refine norm_ (a' := ?_) ?_ ?_
      rotate_left
      ·show Act.put _ (some 29) _ = _
       simp only [Act.put, List.setIfInBounds_toArray, List.set_cons_zero, List.set_cons_succ, i64_w, i32_w]
       rfl
      refine one_ (i := 3) (N := some 31) (bm 8 63) rfl rfl (one_of HT_.out (by kernel_rfl)) (by decide) (fun K hK => ?_)
      refine goes_ Try.func8 (by kernel_rfl) rfl #[.agg #[.int .i64 a1_0, .slice A1_1 l1_1.length c1_1, .slice A1_2 l1_2.length c1_2]] (by rfl) rfl rfl zG ?_
      with_reducible refine (laws_toMachine.calls k a1_0 _ _ l1_1 _ _ l1_2 t305 t306 t309 _ ?side1 ?side2 ?side3 ?side4 A22.out).mono ?_
      (case side1 => exact cS HR1_1 HB)
      (case side2 => exact HC1_1.out)
      (case side3 => exact cS HR1_2 HB)
      (case side4 => exact HC1_2.out)
      rintro e w47 ⟨v307, v310, rfl, ho0, ho1, hb⟩
      refine ⟨_, rfl, ?_⟩
      have HO308 := Aside0.mk (Kd.R_lower (Kd.R_new' ho0 (Kd.R_lt (zR HO301))) (below_size (zB HB)))
      replace HO301 := Aside0.mk (Kd.R_elder' (zR HO301) (Kd.R_base ho0) hb)
      have HO311 := Aside0.mk (Kd.R_lower (Kd.R_new' ho1 (Kd.R_lt (zR HO304))) (below_size (zB HB)))
      replace HO304 := Aside0.mk (Kd.R_elder' (zR HO304) (Kd.R_base ho1) hb)
      replace BK294 := kB BK294 hb
      replace BK295 := kB BK295 hb
      replace HB := bS HB hb
      (try clear hb)
      (try clear hb2)
      (try clear hk)
      (try clear hi)
      (try clear ho0)
      (try clear ho1)
      obtain ⟨Ao48, co48, eo48⟩ := Kd.R_slice HO301.out
      (first | subst eo48 | (injection eo48 with f1_ f2_ f3_; have f4_ := f1_.symm; have f5_ := f3_.symm; clear f1_ f2_ f3_; subst f4_; subst f5_))
      obtain ⟨Ao49, co49, eo49⟩ := Kd.R_slice HO304.out
      (first | subst eo49 | (injection eo49 with f1_ f2_ f3_; have f4_ := f1_.symm; have f5_ := f3_.symm; clear f1_ f2_ f3_; subst f4_; subst f5_))
      obtain ⟨Ao50, co50, eo50⟩ := Kd.R_slice HO308.out
      (first | subst eo50 | (injection eo50 with f1_ f2_ f3_; have f4_ := f1_.symm; have f5_ := f3_.symm; clear f1_ f2_ f3_; subst f4_; subst f5_))
      obtain ⟨Ao51, co51, eo51⟩ := Kd.R_slice HO311.out
      (first | subst eo51 | (injection eo51 with f1_ f2_ f3_; have f4_ := f1_.symm; have f5_ := f3_.symm; clear f1_ f2_ f3_; subst f4_; subst f5_))
      refine hK.out _ _ ⟨bc0 BK294, bc1 BK294, bc2 BK294, bc0 BK295, bc1 BK295, bc2 BK295⟩ (fun hHeld => ?_)
      clear hK K
      refine norm_ (a' := ?_) ?_ ?_
      rotate_left
      ·show Act.put _ (some 31) _ = _
       simp only [Act.put, List.setIfInBounds_toArray, List.set_cons_zero, List.set_cons_succ, i64_w, i32_w]
       rfl
      refine one_ (i := 6) (N := some 34) (bm 8 127) rfl rfl (one_of HT_.out (by kernel_rfl)) (by decide) (fun K hK => ?_)
      refine goes_ Try.func21 (by kernel_rfl) rfl #[.agg #[.int .i64 t298, .slice Ao48 t299.length co48, .slice Ao49 t302.length co49], .agg #[.int .i64 t305, .slice Ao50 t306.length co50, .slice Ao51 t309.length co51], .int .i64 a2, .int .i64 a3] (by rfl) rfl rfl zG ?_
      with_reducible refine (spec_NextPairs.calls k t298 _ _ t299 _ _ t302 t305 _ _ t306 _ _ t309 a2 a3 t312 _ ?side1 ?side2 ?side3 ?side4 ?side5 ?side6 ?side7 ?side8 A23.out).mono ?_
      (case side1 => repeat (first | exact (Kd.R_reads' HO301.out).2.2 | (with_reducible refine Kd.C_alloc ?_ _) | (with_reducible refine Kd.C_drewN ?_ _) | (with_reducible refine Kd.C_drew ?_)))
      (case side2 => exact (Kd.R_reads' HO301.out).2.1)
      (case side3 => repeat (first | exact (Kd.R_reads' HO304.out).2.2 | (with_reducible refine Kd.C_alloc ?_ _) | (with_reducible refine Kd.C_drewN ?_ _) | (with_reducible refine Kd.C_drew ?_)))
      (case side4 => exact (Kd.R_reads' HO304.out).2.1)
      (case side5 => repeat (first | exact (Kd.R_reads' HO308.out).2.2 | (with_reducible refine Kd.C_alloc ?_ _) | (with_reducible refine Kd.C_drewN ?_ _) | (with_reducible refine Kd.C_drew ?_)))
      (case side6 => exact (Kd.R_reads' HO308.out).2.1)
      (case side7 => repeat (first | exact (Kd.R_reads' HO311.out).2.2 | (with_reducible refine Kd.C_alloc ?_ _) | (with_reducible refine Kd.C_drewN ?_ _) | (with_reducible refine Kd.C_drew ?_)))
      (case side8 => exact (Kd.R_reads' HO311.out).2.1)
      rintro e w52 ⟨v313, rfl, ho0, hb⟩
      refine ⟨_, rfl, ?_⟩
      replace HO301 := Aside0.mk (Kd.R_below (zR HO301) hb)
      replace HO304 := Aside0.mk (Kd.R_below (zR HO304) hb)
      replace HO308 := Aside0.mk (Kd.R_below (zR HO308) hb)
      replace HO311 := Aside0.mk (Kd.R_below (zR HO311) hb)
      have HO314 := Aside0.mk (Kd.S_lower ho0 (below_size (zB HB)))
      replace BK294 := kB BK294 hb
      replace BK295 := kB BK295 hb
      replace HB := bS HB hb
      (try clear hb)
      (try clear hb2)
      (try clear hk)
      (try clear hi)
      (try clear ho0)
      refine hK.out _ _ ⟨bc0 BK294, bc1 BK294, bc2 BK294, bc0 BK295, bc1 BK295, bc2 BK295⟩ (fun hHeld => ?_)
      clear hK K
      refine norm_ (a' := ?_) ?_ ?_
      rotate_left
      ·show Act.put _ (some 34) _ = _
       simp only [Act.put, List.setIfInBounds_toArray, List.set_cons_zero, List.set_cons_succ, i64_w, i32_w]
       rfl
      refine pU 7 (some 10) (bm 8 255) HT_ rfl rfl ?_
      refine done_ (done_of HT_.out (by kernel_rfl)) ?_
      try clear hHeld
      have hcz53_0 := bc0 BK294
      have hcz53_1 := bc1 BK294
      have hcz53_2 := bc2 BK294
      have hfz53_0 := bf BK294 0
      have hfz53_1 := bf BK294 1
      have hfz53_2 := bf BK294 2
      try go_wp2_with (first | ((with_reducible refine gate_callee (f := 8) rfl ?_); refine goesL_ (some 36) rfl rfl Try.func8 (by kernel_rfl) rfl #[.agg #[.int .i64 a0_0, .slice A0_1 l0_1.length c0_1, .slice A0_2 l0_2.length c0_2]] rfl zG ?_; (with_reducible refine (laws_toMachine.calls k a0_0 _ _ l0_1 _ _ l0_2 t315 t316 t319 _ ?side1 ?side2 ?side3 ?side4 A24.out).mono ?_); (case side1 => exact cS HR0_1 HB); (case side2 => exact HC0_1.out); (case side3 => exact cS HR0_2 HB); (case side4 => exact HC0_2.out); rintro e w54 ⟨v317, v320, rfl, ho0, ho1, hb⟩; refine ⟨_, rfl, ?_⟩; replace HO314 := Aside0.mk (Kd.S_below (zS HO314) hb); have HO318 := Aside0.mk (Kd.R_lower (Kd.R_new' (Kd.R_new' ho0 (Kd.R_lt (zR HO301))) (Kd.R_lt (zR HO308))) (below_size (zB HB))); replace HO301 := Aside0.mk (Kd.R_elder' (zR HO301) (Kd.R_base ho0) hb); replace HO308 := Aside0.mk (Kd.R_elder' (zR HO308) (Kd.R_base ho0) hb); have HO321 := Aside0.mk (Kd.R_lower (Kd.R_new' (Kd.R_new' ho1 (Kd.R_lt (zR HO304))) (Kd.R_lt (zR HO311))) (below_size (zB HB))); replace HO304 := Aside0.mk (Kd.R_elder' (zR HO304) (Kd.R_base ho1) hb); replace HO311 := Aside0.mk (Kd.R_elder' (zR HO311) (Kd.R_base ho1) hb); replace BK294 := kB BK294 hb; replace BK295 := kB BK295 hb; replace HB := bS HB hb; (try clear hb); (try clear ho0); (try clear ho1)) | ((with_reducible refine gate_dst (N := 11) rfl ?_); refine box_event ?hg (N := 11) ?hd (cs := #[.int .i64 0, .slice none 0 0, .slice none 0 0]) (t := 29) ?hr ?_; (case hd => rfl); (case hg => rfl); (case hr => first | (go_simp; done) | (go_simp; rfl)); intro gb322 hg w55 hbox hb; replace HO301 := Aside0.mk (Kd.R_below (zR HO301) hb); replace HO304 := Aside0.mk (Kd.R_below (zR HO304) hb); replace HO308 := Aside0.mk (Kd.R_below (zR HO308) hb); replace HO311 := Aside0.mk (Kd.R_below (zR HO311) hb); replace HO314 := Aside0.mk (Kd.S_below (zS HO314) hb); replace HO318 := Aside0.mk (Kd.R_below (zR HO318) hb); replace HO321 := Aside0.mk (Kd.R_below (zR HO321) hb); have BK322 := Aside0.mk (hbox); have GW322 := gS HB hg; have GE322 := gS HB hg; replace HB := bS HB hb; have NB294_322 := nL BK294 hg; have NB322_294 := nR BK294 hg; replace BK294 := kB BK294 hb; have NB295_322 := nL BK295 hg; have NB322_295 := nR BK295 hg; replace BK295 := kB BK295 hb; clear hb hbox hg; have hnb56 := NB322_294.out; have hnc56 := NB294_322.out; have hnb57 := NB322_295.out; have hnc57 := NB295_322.out; have hcz58_0 := bc0 BK322; have hcz58_1 := bc1 BK322; have hcz58_2 := bc2 BK322; have hfz58_0 := bf BK322 0; have hfz58_1 := bf BK322 1; have hfz58_2 := bf BK322 2; obtain ⟨Ao59, co59, eo59⟩ := Kd.R_slice HO318.out; subst eo59; obtain ⟨Ao60, co60, eo60⟩ := Kd.R_slice HO321.out; subst eo60; have hcz61_0 := bc0 BK295; have hcz61_1 := bc1 BK295; have hcz61_2 := bc2 BK295; have hfz61_0 := bf BK295 0; have hfz61_1 := bf BK295 1; have hfz61_2 := bf BK295 2) | ((with_reducible refine gate_callee (f := 8) rfl ?_); refine goesL_ (some 38) rfl rfl Try.func8 (by kernel_rfl) rfl #[.agg #[.int .i64 a1_0, .slice A1_1 l1_1.length c1_1, .slice A1_2 l1_2.length c1_2]] rfl zG ?_; (with_reducible refine (laws_toMachine.calls k a1_0 _ _ l1_1 _ _ l1_2 t323 t324 t327 _ ?side1 ?side2 ?side3 ?side4 A25.out).mono ?_); (case side1 => exact Kd.C_below HR1_1.out (zB HB)); (case side2 => exact HC1_1.out); (case side3 => exact Kd.C_below HR1_2.out (zB HB)); (case side4 => exact HC1_2.out); rintro e w62 ⟨v325, v328, rfl, ho0, ho1, hb⟩; refine ⟨_, rfl, ?_⟩; replace HO314 := Aside0.mk (Kd.S_below (by (with_reducible repeat (first | apply Kd.S_alloc | apply Kd.S_drewN | apply Kd.S_drew)); exact (Kd.S_mono (Kd.S_far (p := ⟨gb322, 2, none⟩) (Kd.S_far (p := ⟨gb322, 1, none⟩) (Kd.S_far (p := ⟨gb322, 0, none⟩) (Kd.S_types HO314.out BK322.out (by decide)) (fun _ hk => hk.2) (.int .i64 t315)) (fun _ hk => hk.2) (.slice Ao59 t316.length co59)) (fun _ hk => hk.2) (.slice Ao60 t319.length co60)) (fun _ h_ => h_.1))) hb); have HO326 := Aside0.mk (Kd.R_lower (Kd.R_new' (Kd.R_new' (Kd.R_new' ho0 (Kd.R_lt (by (with_reducible repeat (first | apply Kd.R_alloc | apply Kd.R_drewN | apply Kd.R_drew)); exact (Kd.R_mono (Kd.R_far (p := ⟨gb322, 2, none⟩) (Kd.R_far (p := ⟨gb322, 1, none⟩) (Kd.R_far (p := ⟨gb322, 0, none⟩) (Kd.R_types HO301.out BK322.out (by decide)) (fun _ hk => hk.2) (.int .i64 t315)) (fun _ hk => hk.2) (.slice Ao59 t316.length co59)) (fun _ hk => hk.2) (.slice Ao60 t319.length co60)) (fun _ h_ => h_.1))))) (Kd.R_lt (by (with_reducible repeat (first | apply Kd.R_alloc | apply Kd.R_drewN | apply Kd.R_drew)); exact (Kd.R_mono (Kd.R_far (p := ⟨gb322, 2, none⟩) (Kd.R_far (p := ⟨gb322, 1, none⟩) (Kd.R_far (p := ⟨gb322, 0, none⟩) (Kd.R_types HO308.out BK322.out (by decide)) (fun _ hk => hk.2) (.int .i64 t315)) (fun _ hk => hk.2) (.slice Ao59 t316.length co59)) (fun _ hk => hk.2) (.slice Ao60 t319.length co60)) (fun _ h_ => h_.1))))) (Kd.R_lt (by (with_reducible repeat (first | apply Kd.R_alloc | apply Kd.R_drewN | apply Kd.R_drew)); exact (Kd.R_mono (Kd.R_far (p := ⟨gb322, 2, none⟩) (Kd.R_far (p := ⟨gb322, 1, none⟩) (Kd.R_far (p := ⟨gb322, 0, none⟩) (Kd.R_types HO318.out BK322.out (by decide)) (fun _ hk => hk.2) (.int .i64 t315)) (fun _ hk => hk.2) (.slice Ao59 t316.length co59)) (fun _ hk => hk.2) (.slice Ao60 t319.length co60)) (fun _ h_ => h_.1))))) (below_size (zB HB))); replace HO301 := Aside0.mk (Kd.R_elder' (by (with_reducible repeat (first | apply Kd.R_alloc | apply Kd.R_drewN | apply Kd.R_drew)); exact (Kd.R_mono (Kd.R_far (p := ⟨gb322, 2, none⟩) (Kd.R_far (p := ⟨gb322, 1, none⟩) (Kd.R_far (p := ⟨gb322, 0, none⟩) (Kd.R_types HO301.out BK322.out (by decide)) (fun _ hk => hk.2) (.int .i64 t315)) (fun _ hk => hk.2) (.slice Ao59 t316.length co59)) (fun _ hk => hk.2) (.slice Ao60 t319.length co60)) (fun _ h_ => h_.1))) (Kd.R_base ho0) hb); replace HO308 := Aside0.mk (Kd.R_elder' (by (with_reducible repeat (first | apply Kd.R_alloc | apply Kd.R_drewN | apply Kd.R_drew)); exact (Kd.R_mono (Kd.R_far (p := ⟨gb322, 2, none⟩) (Kd.R_far (p := ⟨gb322, 1, none⟩) (Kd.R_far (p := ⟨gb322, 0, none⟩) (Kd.R_types HO308.out BK322.out (by decide)) (fun _ hk => hk.2) (.int .i64 t315)) (fun _ hk => hk.2) (.slice Ao59 t316.length co59)) (fun _ hk => hk.2) (.slice Ao60 t319.length co60)) (fun _ h_ => h_.1))) (Kd.R_base ho0) hb); replace HO318 := Aside0.mk (Kd.R_elder' (by (with_reducible repeat (first | apply Kd.R_alloc | apply Kd.R_drewN | apply Kd.R_drew)); exact (Kd.R_mono (Kd.R_far (p := ⟨gb322, 2, none⟩) (Kd.R_far (p := ⟨gb322, 1, none⟩) (Kd.R_far (p := ⟨gb322, 0, none⟩) (Kd.R_types HO318.out BK322.out (by decide)) (fun _ hk => hk.2) (.int .i64 t315)) (fun _ hk => hk.2) (.slice Ao59 t316.length co59)) (fun _ hk => hk.2) (.slice Ao60 t319.length co60)) (fun _ h_ => h_.1))) (Kd.R_base ho0) hb); have HO329 := Aside0.mk (Kd.R_lower (Kd.R_new' (Kd.R_new' (Kd.R_new' ho1 (Kd.R_lt (by (with_reducible repeat (first | apply Kd.R_alloc | apply Kd.R_drewN | apply Kd.R_drew)); exact (Kd.R_mono (Kd.R_far (p := ⟨gb322, 2, none⟩) (Kd.R_far (p := ⟨gb322, 1, none⟩) (Kd.R_far (p := ⟨gb322, 0, none⟩) (Kd.R_types HO304.out BK322.out (by decide)) (fun _ hk => hk.2) (.int .i64 t315)) (fun _ hk => hk.2) (.slice Ao59 t316.length co59)) (fun _ hk => hk.2) (.slice Ao60 t319.length co60)) (fun _ h_ => h_.1))))) (Kd.R_lt (by (with_reducible repeat (first | apply Kd.R_alloc | apply Kd.R_drewN | apply Kd.R_drew)); exact (Kd.R_mono (Kd.R_far (p := ⟨gb322, 2, none⟩) (Kd.R_far (p := ⟨gb322, 1, none⟩) (Kd.R_far (p := ⟨gb322, 0, none⟩) (Kd.R_types HO311.out BK322.out (by decide)) (fun _ hk => hk.2) (.int .i64 t315)) (fun _ hk => hk.2) (.slice Ao59 t316.length co59)) (fun _ hk => hk.2) (.slice Ao60 t319.length co60)) (fun _ h_ => h_.1))))) (Kd.R_lt (by (with_reducible repeat (first | apply Kd.R_alloc | apply Kd.R_drewN | apply Kd.R_drew)); exact (Kd.R_mono (Kd.R_far (p := ⟨gb322, 2, none⟩) (Kd.R_far (p := ⟨gb322, 1, none⟩) (Kd.R_far (p := ⟨gb322, 0, none⟩) (Kd.R_types HO321.out BK322.out (by decide)) (fun _ hk => hk.2) (.int .i64 t315)) (fun _ hk => hk.2) (.slice Ao59 t316.length co59)) (fun _ hk => hk.2) (.slice Ao60 t319.length co60)) (fun _ h_ => h_.1))))) (below_size (zB HB))); replace HO304 := Aside0.mk (Kd.R_elder' (by (with_reducible repeat (first | apply Kd.R_alloc | apply Kd.R_drewN | apply Kd.R_drew)); exact (Kd.R_mono (Kd.R_far (p := ⟨gb322, 2, none⟩) (Kd.R_far (p := ⟨gb322, 1, none⟩) (Kd.R_far (p := ⟨gb322, 0, none⟩) (Kd.R_types HO304.out BK322.out (by decide)) (fun _ hk => hk.2) (.int .i64 t315)) (fun _ hk => hk.2) (.slice Ao59 t316.length co59)) (fun _ hk => hk.2) (.slice Ao60 t319.length co60)) (fun _ h_ => h_.1))) (Kd.R_base ho1) hb); replace HO311 := Aside0.mk (Kd.R_elder' (by (with_reducible repeat (first | apply Kd.R_alloc | apply Kd.R_drewN | apply Kd.R_drew)); exact (Kd.R_mono (Kd.R_far (p := ⟨gb322, 2, none⟩) (Kd.R_far (p := ⟨gb322, 1, none⟩) (Kd.R_far (p := ⟨gb322, 0, none⟩) (Kd.R_types HO311.out BK322.out (by decide)) (fun _ hk => hk.2) (.int .i64 t315)) (fun _ hk => hk.2) (.slice Ao59 t316.length co59)) (fun _ hk => hk.2) (.slice Ao60 t319.length co60)) (fun _ h_ => h_.1))) (Kd.R_base ho1) hb); replace HO321 := Aside0.mk (Kd.R_elder' (by (with_reducible repeat (first | apply Kd.R_alloc | apply Kd.R_drewN | apply Kd.R_drew)); exact (Kd.R_mono (Kd.R_far (p := ⟨gb322, 2, none⟩) (Kd.R_far (p := ⟨gb322, 1, none⟩) (Kd.R_far (p := ⟨gb322, 0, none⟩) (Kd.R_types HO321.out BK322.out (by decide)) (fun _ hk => hk.2) (.int .i64 t315)) (fun _ hk => hk.2) (.slice Ao59 t316.length co59)) (fun _ hk => hk.2) (.slice Ao60 t319.length co60)) (fun _ h_ => h_.1))) (Kd.R_base ho1) hb); replace BK294 := Aside0.mk (blk_below (g := gb294) (o := .cells #[.int .i64 a0_0, .slice A0_1 l0_1.length c0_1, .slice A0_2 l0_2.length c0_2] 25 (0, 0)) (by (with_reducible repeat (first | refine blk_drewN ?_ _ | refine blk_drew ?_ | refine blk_alloc ?_ _)); refine blk_far ?_ NB294_322.out _; (with_reducible repeat (first | refine blk_drewN ?_ _ | refine blk_drew ?_ | refine blk_alloc ?_ _)); refine blk_far ?_ NB294_322.out _; (with_reducible repeat (first | refine blk_drewN ?_ _ | refine blk_drew ?_ | refine blk_alloc ?_ _)); refine blk_far ?_ NB294_322.out _; (with_reducible repeat (first | refine blk_drewN ?_ _ | refine blk_drew ?_ | refine blk_alloc ?_ _)); exact BK294.out) hb); replace BK295 := Aside0.mk (blk_below (g := gb295) (o := .cells #[.int .i64 a1_0, .slice A1_1 l1_1.length c1_1, .slice A1_2 l1_2.length c1_2] 25 (0, 0)) (by (with_reducible repeat (first | refine blk_drewN ?_ _ | refine blk_drew ?_ | refine blk_alloc ?_ _)); refine blk_far ?_ NB295_322.out _; (with_reducible repeat (first | refine blk_drewN ?_ _ | refine blk_drew ?_ | refine blk_alloc ?_ _)); refine blk_far ?_ NB295_322.out _; (with_reducible repeat (first | refine blk_drewN ?_ _ | refine blk_drew ?_ | refine blk_alloc ?_ _)); refine blk_far ?_ NB295_322.out _; (with_reducible repeat (first | refine blk_drewN ?_ _ | refine blk_drew ?_ | refine blk_alloc ?_ _)); exact BK295.out) hb); replace BK322 := Aside0.mk (blk_below (g := gb322) (o := .cells #[.int .i64 t315, .slice Ao59 t316.length co59, .slice Ao60 t319.length co60] 29 (0, 0)) (by (with_reducible repeat (first | refine blk_drewN ?_ _ | refine blk_drew ?_ | refine blk_alloc ?_ _)); refine blk_put (cs := #[.int .i64 t315, .slice Ao59 t316.length co59, .slice none 0 0]) ?_ 2 _ rfl; (with_reducible repeat (first | refine blk_drewN ?_ _ | refine blk_drew ?_ | refine blk_alloc ?_ _)); refine blk_put (cs := #[.int .i64 t315, .slice none 0 0, .slice none 0 0]) ?_ 1 _ rfl; (with_reducible repeat (first | refine blk_drewN ?_ _ | refine blk_drew ?_ | refine blk_alloc ?_ _)); refine blk_put (cs := #[.int .i64 0, .slice none 0 0, .slice none 0 0]) ?_ 0 _ rfl; (with_reducible repeat (first | refine blk_drewN ?_ _ | refine blk_drew ?_ | refine blk_alloc ?_ _)); exact BK322.out) hb); replace HB := bS HB hb; (try clear hb); (try clear ho0); (try clear ho1)) | ((with_reducible refine gate_dst (N := 12) rfl ?_); refine box_event ?hg (N := 12) ?hd (cs := #[.int .i64 0, .slice none 0 0, .slice none 0 0]) (t := 29) ?hr ?_; (case hd => rfl); (case hg => rfl); (case hr => first | (go_simp; done) | (go_simp; rfl)); intro gb330 hg w63 hbox hb; replace HO301 := Aside0.mk (Kd.R_below (zR HO301) hb); replace HO304 := Aside0.mk (Kd.R_below (zR HO304) hb); replace HO308 := Aside0.mk (Kd.R_below (zR HO308) hb); replace HO311 := Aside0.mk (Kd.R_below (zR HO311) hb); replace HO314 := Aside0.mk (Kd.S_below (zS HO314) hb); replace HO318 := Aside0.mk (Kd.R_below (zR HO318) hb); replace HO321 := Aside0.mk (Kd.R_below (zR HO321) hb); replace HO326 := Aside0.mk (Kd.R_below (zR HO326) hb); replace HO329 := Aside0.mk (Kd.R_below (zR HO329) hb); have BK330 := Aside0.mk (hbox); have GW330 := gS HB hg; have GE330 := gS HB hg; replace HB := bS HB hb; have NB294_330 := nL BK294 hg; have NB330_294 := nR BK294 hg; replace BK294 := kB BK294 hb; have NB295_330 := nL BK295 hg; have NB330_295 := nR BK295 hg; replace BK295 := kB BK295 hb; have NB322_330 := nL BK322 hg; have NB330_322 := nR BK322 hg; replace BK322 := kB BK322 hb; clear hb hbox hg; have hnb64 := NB330_294.out; have hnc64 := NB294_330.out; have hnb65 := NB330_295.out; have hnc65 := NB295_330.out; have hnb66 := NB330_322.out; have hnc66 := NB322_330.out; have hcz67_0 := bc0 BK330; have hcz67_1 := bc1 BK330; have hcz67_2 := bc2 BK330; have hfz67_0 := bf BK330 0; have hfz67_1 := bf BK330 1; have hfz67_2 := bf BK330 2; obtain ⟨Ao68, co68, eo68⟩ := Kd.R_slice HO326.out; subst eo68; obtain ⟨Ao69, co69, eo69⟩ := Kd.R_slice HO329.out; subst eo69; have hcz70_0 := bc0 BK322; have hcz70_1 := bc1 BK322; have hcz70_2 := bc2 BK322; have hfz70_0 := bf BK322 0; have hfz70_1 := bf BK322 1; have hfz70_2 := bf BK322 2) | ((with_reducible refine gate_callee (f := 22) rfl ?_); refine goesL_ (some 43) rfl rfl Try.func22 (by kernel_rfl) rfl #[.agg #[.int .i64 t315, .slice Ao59 t316.length co59, .slice Ao60 t319.length co60], .agg #[.int .i64 t323, .slice Ao68 t324.length co68, .slice Ao69 t327.length co69], .int .i64 a2, .int .i64 a3] rfl zG ?_; (with_reducible refine (impl_NextPairs.calls k t315 _ _ t316 _ _ t319 t323 _ _ t324 _ _ t327 a2 a3 t331 _ ?side1 ?side2 ?side3 ?side4 ?side5 ?side6 ?side7 ?side8 A26.out).mono ?_); (case side1 => refine (Kd.R_reads' (e := 4) (base := w.heap.size) (ok := fun k_ => (((True ∧ some k_ ≠ (.slice Ao48 t299.length co48 : Value).ownBlock) ∧ some k_ ≠ (.slice Ao50 t306.length co50 : Value).ownBlock) ∧ some k_ ≠ (.slice Ao68 t324.length co68 : Value).ownBlock)) (n := t316.length) (c := co59) ?_).2.2; exact (by (with_reducible repeat (first | apply Kd.R_alloc | apply Kd.R_drewN | apply Kd.R_drew)); exact (Kd.R_mono (Kd.R_far (p := ⟨gb330, 2, none⟩) (Kd.R_far (p := ⟨gb330, 1, none⟩) (Kd.R_far (p := ⟨gb330, 0, none⟩) (Kd.R_types HO318.out BK330.out (by decide)) (fun _ hk => hk.2) (.int .i64 t323)) (fun _ hk => hk.2) (.slice Ao68 t324.length co68)) (fun _ hk => hk.2) (.slice Ao69 t327.length co69)) (fun _ h_ => h_.1)))); (case side2 => exact (Kd.R_reads' HO318.out).2.1); (case side3 => refine (Kd.R_reads' (e := 54) (base := w.heap.size) (ok := fun k_ => (((True ∧ some k_ ≠ (.slice Ao49 t302.length co49 : Value).ownBlock) ∧ some k_ ≠ (.slice Ao51 t309.length co51 : Value).ownBlock) ∧ some k_ ≠ (.slice Ao69 t327.length co69 : Value).ownBlock)) (n := t319.length) (c := co60) ?_).2.2; exact (by (with_reducible repeat (first | apply Kd.R_alloc | apply Kd.R_drewN | apply Kd.R_drew)); exact (Kd.R_mono (Kd.R_far (p := ⟨gb330, 2, none⟩) (Kd.R_far (p := ⟨gb330, 1, none⟩) (Kd.R_far (p := ⟨gb330, 0, none⟩) (Kd.R_types HO321.out BK330.out (by decide)) (fun _ hk => hk.2) (.int .i64 t323)) (fun _ hk => hk.2) (.slice Ao68 t324.length co68)) (fun _ hk => hk.2) (.slice Ao69 t327.length co69)) (fun _ h_ => h_.1)))); (case side4 => exact (Kd.R_reads' HO321.out).2.1); (case side5 => refine (Kd.R_reads' (e := 4) (base := w.heap.size) (ok := fun k_ => (((True ∧ some k_ ≠ (.slice Ao48 t299.length co48 : Value).ownBlock) ∧ some k_ ≠ (.slice Ao50 t306.length co50 : Value).ownBlock) ∧ some k_ ≠ (.slice Ao59 t316.length co59 : Value).ownBlock)) (n := t324.length) (c := co68) ?_).2.2; exact (by (with_reducible repeat (first | apply Kd.R_alloc | apply Kd.R_drewN | apply Kd.R_drew)); exact (Kd.R_mono (Kd.R_far (p := ⟨gb330, 2, none⟩) (Kd.R_far (p := ⟨gb330, 1, none⟩) (Kd.R_far (p := ⟨gb330, 0, none⟩) (Kd.R_types HO326.out BK330.out (by decide)) (fun _ hk => hk.2) (.int .i64 t323)) (fun _ hk => hk.2) (.slice Ao68 t324.length co68)) (fun _ hk => hk.2) (.slice Ao69 t327.length co69)) (fun _ h_ => h_.1)))); (case side6 => exact (Kd.R_reads' HO326.out).2.1); (case side7 => refine (Kd.R_reads' (e := 54) (base := w.heap.size) (ok := fun k_ => (((True ∧ some k_ ≠ (.slice Ao49 t302.length co49 : Value).ownBlock) ∧ some k_ ≠ (.slice Ao51 t309.length co51 : Value).ownBlock) ∧ some k_ ≠ (.slice Ao60 t319.length co60 : Value).ownBlock)) (n := t327.length) (c := co69) ?_).2.2; exact (by (with_reducible repeat (first | apply Kd.R_alloc | apply Kd.R_drewN | apply Kd.R_drew)); exact (Kd.R_mono (Kd.R_far (p := ⟨gb330, 2, none⟩) (Kd.R_far (p := ⟨gb330, 1, none⟩) (Kd.R_far (p := ⟨gb330, 0, none⟩) (Kd.R_types HO329.out BK330.out (by decide)) (fun _ hk => hk.2) (.int .i64 t323)) (fun _ hk => hk.2) (.slice Ao68 t324.length co68)) (fun _ hk => hk.2) (.slice Ao69 t327.length co69)) (fun _ h_ => h_.1)))); (case side8 => exact (Kd.R_reads' HO329.out).2.1); rintro e w71 ⟨v332, rfl, ho0, hb⟩; refine ⟨_, rfl, ?_⟩; replace HO301 := Aside0.mk (Kd.R_below (by (with_reducible repeat (first | apply Kd.R_alloc | apply Kd.R_drewN | apply Kd.R_drew)); exact (Kd.R_mono (Kd.R_far (p := ⟨gb330, 2, none⟩) (Kd.R_far (p := ⟨gb330, 1, none⟩) (Kd.R_far (p := ⟨gb330, 0, none⟩) (Kd.R_types HO301.out BK330.out (by decide)) (fun _ hk => hk.2) (.int .i64 t323)) (fun _ hk => hk.2) (.slice Ao68 t324.length co68)) (fun _ hk => hk.2) (.slice Ao69 t327.length co69)) (fun _ h_ => h_.1))) hb); replace HO304 := Aside0.mk (Kd.R_below (by (with_reducible repeat (first | apply Kd.R_alloc | apply Kd.R_drewN | apply Kd.R_drew)); exact (Kd.R_mono (Kd.R_far (p := ⟨gb330, 2, none⟩) (Kd.R_far (p := ⟨gb330, 1, none⟩) (Kd.R_far (p := ⟨gb330, 0, none⟩) (Kd.R_types HO304.out BK330.out (by decide)) (fun _ hk => hk.2) (.int .i64 t323)) (fun _ hk => hk.2) (.slice Ao68 t324.length co68)) (fun _ hk => hk.2) (.slice Ao69 t327.length co69)) (fun _ h_ => h_.1))) hb); replace HO308 := Aside0.mk (Kd.R_below (by (with_reducible repeat (first | apply Kd.R_alloc | apply Kd.R_drewN | apply Kd.R_drew)); exact (Kd.R_mono (Kd.R_far (p := ⟨gb330, 2, none⟩) (Kd.R_far (p := ⟨gb330, 1, none⟩) (Kd.R_far (p := ⟨gb330, 0, none⟩) (Kd.R_types HO308.out BK330.out (by decide)) (fun _ hk => hk.2) (.int .i64 t323)) (fun _ hk => hk.2) (.slice Ao68 t324.length co68)) (fun _ hk => hk.2) (.slice Ao69 t327.length co69)) (fun _ h_ => h_.1))) hb); replace HO311 := Aside0.mk (Kd.R_below (by (with_reducible repeat (first | apply Kd.R_alloc | apply Kd.R_drewN | apply Kd.R_drew)); exact (Kd.R_mono (Kd.R_far (p := ⟨gb330, 2, none⟩) (Kd.R_far (p := ⟨gb330, 1, none⟩) (Kd.R_far (p := ⟨gb330, 0, none⟩) (Kd.R_types HO311.out BK330.out (by decide)) (fun _ hk => hk.2) (.int .i64 t323)) (fun _ hk => hk.2) (.slice Ao68 t324.length co68)) (fun _ hk => hk.2) (.slice Ao69 t327.length co69)) (fun _ h_ => h_.1))) hb); replace HO318 := Aside0.mk (Kd.R_below (by (with_reducible repeat (first | apply Kd.R_alloc | apply Kd.R_drewN | apply Kd.R_drew)); exact (Kd.R_mono (Kd.R_far (p := ⟨gb330, 2, none⟩) (Kd.R_far (p := ⟨gb330, 1, none⟩) (Kd.R_far (p := ⟨gb330, 0, none⟩) (Kd.R_types HO318.out BK330.out (by decide)) (fun _ hk => hk.2) (.int .i64 t323)) (fun _ hk => hk.2) (.slice Ao68 t324.length co68)) (fun _ hk => hk.2) (.slice Ao69 t327.length co69)) (fun _ h_ => h_.1))) hb); replace HO321 := Aside0.mk (Kd.R_below (by (with_reducible repeat (first | apply Kd.R_alloc | apply Kd.R_drewN | apply Kd.R_drew)); exact (Kd.R_mono (Kd.R_far (p := ⟨gb330, 2, none⟩) (Kd.R_far (p := ⟨gb330, 1, none⟩) (Kd.R_far (p := ⟨gb330, 0, none⟩) (Kd.R_types HO321.out BK330.out (by decide)) (fun _ hk => hk.2) (.int .i64 t323)) (fun _ hk => hk.2) (.slice Ao68 t324.length co68)) (fun _ hk => hk.2) (.slice Ao69 t327.length co69)) (fun _ h_ => h_.1))) hb); replace HO326 := Aside0.mk (Kd.R_below (by (with_reducible repeat (first | apply Kd.R_alloc | apply Kd.R_drewN | apply Kd.R_drew)); exact (Kd.R_mono (Kd.R_far (p := ⟨gb330, 2, none⟩) (Kd.R_far (p := ⟨gb330, 1, none⟩) (Kd.R_far (p := ⟨gb330, 0, none⟩) (Kd.R_types HO326.out BK330.out (by decide)) (fun _ hk => hk.2) (.int .i64 t323)) (fun _ hk => hk.2) (.slice Ao68 t324.length co68)) (fun _ hk => hk.2) (.slice Ao69 t327.length co69)) (fun _ h_ => h_.1))) hb); replace HO329 := Aside0.mk (Kd.R_below (by (with_reducible repeat (first | apply Kd.R_alloc | apply Kd.R_drewN | apply Kd.R_drew)); exact (Kd.R_mono (Kd.R_far (p := ⟨gb330, 2, none⟩) (Kd.R_far (p := ⟨gb330, 1, none⟩) (Kd.R_far (p := ⟨gb330, 0, none⟩) (Kd.R_types HO329.out BK330.out (by decide)) (fun _ hk => hk.2) (.int .i64 t323)) (fun _ hk => hk.2) (.slice Ao68 t324.length co68)) (fun _ hk => hk.2) (.slice Ao69 t327.length co69)) (fun _ h_ => h_.1))) hb); obtain ⟨lo_, q1_, q2_⟩ := gh_new ho0 (Kd.S_mono (by (with_reducible repeat (first | apply Kd.S_alloc | apply Kd.S_drewN | apply Kd.S_drew)); exact (Kd.S_mono (Kd.S_far (p := ⟨gb330, 2, none⟩) (Kd.S_far (p := ⟨gb330, 1, none⟩) (Kd.S_far (p := ⟨gb330, 0, none⟩) (Kd.S_types HO314.out BK330.out (by decide)) (fun _ hk => hk.2) (.int .i64 t323)) (fun _ hk => hk.2) (.slice Ao68 t324.length co68)) (fun _ hk => hk.2) (.slice Ao69 t327.length co69)) (fun _ h_ => h_.1))) (fun _ _ => trivial)) hb (below_size (zB HB)); have HO333 := Aside0.mk q1_; replace HO314 := Aside0.mk q2_; clear q1_ q2_; replace BK294 := Aside0.mk (blk_below (g := gb294) (o := .cells #[.int .i64 a0_0, .slice A0_1 l0_1.length c0_1, .slice A0_2 l0_2.length c0_2] 25 (0, 0)) (by (with_reducible repeat (first | refine blk_drewN ?_ _ | refine blk_drew ?_ | refine blk_alloc ?_ _)); refine blk_far ?_ NB294_330.out _; (with_reducible repeat (first | refine blk_drewN ?_ _ | refine blk_drew ?_ | refine blk_alloc ?_ _)); refine blk_far ?_ NB294_330.out _; (with_reducible repeat (first | refine blk_drewN ?_ _ | refine blk_drew ?_ | refine blk_alloc ?_ _)); refine blk_far ?_ NB294_330.out _; (with_reducible repeat (first | refine blk_drewN ?_ _ | refine blk_drew ?_ | refine blk_alloc ?_ _)); exact BK294.out) hb); replace BK295 := Aside0.mk (blk_below (g := gb295) (o := .cells #[.int .i64 a1_0, .slice A1_1 l1_1.length c1_1, .slice A1_2 l1_2.length c1_2] 25 (0, 0)) (by (with_reducible repeat (first | refine blk_drewN ?_ _ | refine blk_drew ?_ | refine blk_alloc ?_ _)); refine blk_far ?_ NB295_330.out _; (with_reducible repeat (first | refine blk_drewN ?_ _ | refine blk_drew ?_ | refine blk_alloc ?_ _)); refine blk_far ?_ NB295_330.out _; (with_reducible repeat (first | refine blk_drewN ?_ _ | refine blk_drew ?_ | refine blk_alloc ?_ _)); refine blk_far ?_ NB295_330.out _; (with_reducible repeat (first | refine blk_drewN ?_ _ | refine blk_drew ?_ | refine blk_alloc ?_ _)); exact BK295.out) hb); replace BK322 := Aside0.mk (blk_below (g := gb322) (o := .cells #[.int .i64 t315, .slice Ao59 t316.length co59, .slice Ao60 t319.length co60] 29 (0, 0)) (by (with_reducible repeat (first | refine blk_drewN ?_ _ | refine blk_drew ?_ | refine blk_alloc ?_ _)); refine blk_far ?_ NB322_330.out _; (with_reducible repeat (first | refine blk_drewN ?_ _ | refine blk_drew ?_ | refine blk_alloc ?_ _)); refine blk_far ?_ NB322_330.out _; (with_reducible repeat (first | refine blk_drewN ?_ _ | refine blk_drew ?_ | refine blk_alloc ?_ _)); refine blk_far ?_ NB322_330.out _; (with_reducible repeat (first | refine blk_drewN ?_ _ | refine blk_drew ?_ | refine blk_alloc ?_ _)); exact BK322.out) hb); replace BK330 := Aside0.mk (blk_below (g := gb330) (o := .cells #[.int .i64 t323, .slice Ao68 t324.length co68, .slice Ao69 t327.length co69] 29 (0, 0)) (by (with_reducible repeat (first | refine blk_drewN ?_ _ | refine blk_drew ?_ | refine blk_alloc ?_ _)); refine blk_put (cs := #[.int .i64 t323, .slice Ao68 t324.length co68, .slice none 0 0]) ?_ 2 _ rfl; (with_reducible repeat (first | refine blk_drewN ?_ _ | refine blk_drew ?_ | refine blk_alloc ?_ _)); refine blk_put (cs := #[.int .i64 t323, .slice none 0 0, .slice none 0 0]) ?_ 1 _ rfl; (with_reducible repeat (first | refine blk_drewN ?_ _ | refine blk_drew ?_ | refine blk_alloc ?_ _)); refine blk_put (cs := #[.int .i64 0, .slice none 0 0, .slice none 0 0]) ?_ 0 _ rfl; (with_reducible repeat (first | refine blk_drewN ?_ _ | refine blk_drew ?_ | refine blk_alloc ?_ _)); exact BK330.out) hb); replace HB := bS HB hb; (try clear hb); (try clear ho0); obtain ⟨Ao72, co72, eo72⟩ := Kd.S_slice HO333.out; subst eo72; obtain ⟨Ao73, co73, eo73⟩ := Kd.S_slice HO314.out; subst eo73) | ((with_reducible refine gate_callee (f := 23) rfl ?_); refine goesL_ (some 46) rfl rfl Try.func23 (by kernel_rfl) rfl #[.slice Ao72 t331.length co72, .slice Ao73 t312.length co73] rfl zG ?_; (with_reducible refine (laws_eqIntSS.calls k _ _ t331 _ _ t312 true _ ?side1 ?side2 ?side3 ?side4 A27.out).mono ?_); (case side1 => repeat (first | exact (Kd.S_reads' HO333.out).2.2 | (with_reducible refine Kd.C_alloc ?_ _) | (with_reducible refine Kd.C_drewN ?_ _) | (with_reducible refine Kd.C_drew ?_))); (case side2 => exact (Kd.S_reads' HO333.out).2.1); (case side3 => repeat (first | exact (Kd.S_reads' HO314.out).2.2 | (with_reducible refine Kd.C_alloc ?_ _) | (with_reducible refine Kd.C_drewN ?_ _) | (with_reducible refine Kd.C_drew ?_))); (case side4 => exact (Kd.S_reads' HO314.out).2.1); rintro e w' ⟨rfl, ⟨nd, rfl⟩⟩; refine ⟨_, rfl, ?_⟩))
      (try (rw [drewN_self w71]; generalize hq_ : World.drewN w71 _ = w71; have n0_ : Aside0 (Kd.R Kd.bool 4 w71 w.heap.size (fun k_ => some k_ ≠ (.slice Ao50 t306.length co50 : Value).ownBlock ∧ some k_ ≠ (.slice Ao59 t316.length co59 : Value).ownBlock ∧ some k_ ≠ (.slice Ao68 t324.length co68 : Value).ownBlock) (.slice Ao48 t299.length co48) t299) := ⟨by rw [← hq_]; exact (by (with_reducible repeat (first | apply Kd.R_alloc | apply Kd.R_drewN | apply Kd.R_drew)); exact Kd.R_mono HO301.out (fun _ hk => ⟨hk.1.1.2, ⟨hk.1.2, hk.2⟩⟩))⟩; have n1_ : Aside0 (Kd.R k54 54 w71 w.heap.size (fun k_ => some k_ ≠ (.slice Ao51 t309.length co51 : Value).ownBlock ∧ some k_ ≠ (.slice Ao60 t319.length co60 : Value).ownBlock ∧ some k_ ≠ (.slice Ao69 t327.length co69 : Value).ownBlock) (.slice Ao49 t302.length co49) t302) := ⟨by rw [← hq_]; exact (by (with_reducible repeat (first | apply Kd.R_alloc | apply Kd.R_drewN | apply Kd.R_drew)); exact Kd.R_mono HO304.out (fun _ hk => ⟨hk.1.1.2, ⟨hk.1.2, hk.2⟩⟩))⟩; have n2_ : Aside0 (Kd.R Kd.bool 4 w71 w.heap.size (fun k_ => some k_ ≠ (.slice Ao48 t299.length co48 : Value).ownBlock ∧ some k_ ≠ (.slice Ao59 t316.length co59 : Value).ownBlock ∧ some k_ ≠ (.slice Ao68 t324.length co68 : Value).ownBlock) (.slice Ao50 t306.length co50) t306) := ⟨by rw [← hq_]; exact (by (with_reducible repeat (first | apply Kd.R_alloc | apply Kd.R_drewN | apply Kd.R_drew)); exact Kd.R_mono HO308.out (fun _ hk => ⟨hk.1.1.2, ⟨hk.1.2, hk.2⟩⟩))⟩; have n3_ : Aside0 (Kd.R k54 54 w71 w.heap.size (fun k_ => some k_ ≠ (.slice Ao49 t302.length co49 : Value).ownBlock ∧ some k_ ≠ (.slice Ao60 t319.length co60 : Value).ownBlock ∧ some k_ ≠ (.slice Ao69 t327.length co69 : Value).ownBlock) (.slice Ao51 t309.length co51) t309) := ⟨by rw [← hq_]; exact (by (with_reducible repeat (first | apply Kd.R_alloc | apply Kd.R_drewN | apply Kd.R_drew)); exact Kd.R_mono HO311.out (fun _ hk => ⟨hk.1.1.2, ⟨hk.1.2, hk.2⟩⟩))⟩; have n4_ : Aside0 (Kd.S (Kd.slice 3 (Kd.int .i64)) 37 w71 w.heap.size (fun k_ => k_ < lo_) (.slice Ao73 t312.length co73) t312) := ⟨by rw [← hq_]; exact (by (with_reducible repeat (first | apply Kd.S_alloc | apply Kd.S_drewN | apply Kd.S_drew)); exact HO314.out)⟩; have n5_ : Aside0 (Kd.R Kd.bool 4 w71 w.heap.size (fun k_ => some k_ ≠ (.slice Ao48 t299.length co48 : Value).ownBlock ∧ some k_ ≠ (.slice Ao50 t306.length co50 : Value).ownBlock ∧ some k_ ≠ (.slice Ao68 t324.length co68 : Value).ownBlock) (.slice Ao59 t316.length co59) t316) := ⟨by rw [← hq_]; exact (by (with_reducible repeat (first | apply Kd.R_alloc | apply Kd.R_drewN | apply Kd.R_drew)); exact Kd.R_mono HO318.out (fun _ hk => ⟨hk.1.1.2, ⟨hk.1.2, hk.2⟩⟩))⟩; have n6_ : Aside0 (Kd.R k54 54 w71 w.heap.size (fun k_ => some k_ ≠ (.slice Ao49 t302.length co49 : Value).ownBlock ∧ some k_ ≠ (.slice Ao51 t309.length co51 : Value).ownBlock ∧ some k_ ≠ (.slice Ao69 t327.length co69 : Value).ownBlock) (.slice Ao60 t319.length co60) t319) := ⟨by rw [← hq_]; exact (by (with_reducible repeat (first | apply Kd.R_alloc | apply Kd.R_drewN | apply Kd.R_drew)); exact Kd.R_mono HO321.out (fun _ hk => ⟨hk.1.1.2, ⟨hk.1.2, hk.2⟩⟩))⟩; have n7_ : Aside0 (Kd.R Kd.bool 4 w71 w.heap.size (fun k_ => some k_ ≠ (.slice Ao48 t299.length co48 : Value).ownBlock ∧ some k_ ≠ (.slice Ao50 t306.length co50 : Value).ownBlock ∧ some k_ ≠ (.slice Ao59 t316.length co59 : Value).ownBlock) (.slice Ao68 t324.length co68) t324) := ⟨by rw [← hq_]; exact (by (with_reducible repeat (first | apply Kd.R_alloc | apply Kd.R_drewN | apply Kd.R_drew)); exact Kd.R_mono HO326.out (fun _ hk => ⟨hk.1.1.2, ⟨hk.1.2, hk.2⟩⟩))⟩; have n8_ : Aside0 (Kd.R k54 54 w71 w.heap.size (fun k_ => some k_ ≠ (.slice Ao49 t302.length co49 : Value).ownBlock ∧ some k_ ≠ (.slice Ao51 t309.length co51 : Value).ownBlock ∧ some k_ ≠ (.slice Ao60 t319.length co60 : Value).ownBlock) (.slice Ao69 t327.length co69) t327) := ⟨by rw [← hq_]; exact (by (with_reducible repeat (first | apply Kd.R_alloc | apply Kd.R_drewN | apply Kd.R_drew)); exact Kd.R_mono HO329.out (fun _ hk => ⟨hk.1.1.2, ⟨hk.1.2, hk.2⟩⟩))⟩; have n9_ : Aside0 (Kd.S (Kd.slice 3 (Kd.int .i64)) 37 w71 w.heap.size (fun k_ => lo_ ≤ k_) (.slice Ao72 t331.length co72) t331) := ⟨by rw [← hq_]; exact (by (with_reducible repeat (first | apply Kd.S_alloc | apply Kd.S_drewN | apply Kd.S_drew)); exact HO333.out)⟩; have n10_ : Aside0 (w71.heap[gb294]? = some (.cells #[.int .i64 a0_0, .slice A0_1 l0_1.length c0_1, .slice A0_2 l0_2.length c0_2] 25 (0, 0))) := ⟨by rw [← hq_]; exact (zK BK294)⟩; have n11_ : Aside0 (w71.heap[gb295]? = some (.cells #[.int .i64 a1_0, .slice A1_1 l1_1.length c1_1, .slice A1_2 l1_2.length c1_2] 25 (0, 0))) := ⟨by rw [← hq_]; exact (zK BK295)⟩; have n12_ : Aside0 (w71.heap[gb322]? = some (.cells #[.int .i64 t315, .slice Ao59 t316.length co59, .slice Ao60 t319.length co60] 29 (0, 0))) := ⟨by rw [← hq_]; exact (zK BK322)⟩; have n13_ : Aside0 (w71.heap[gb330]? = some (.cells #[.int .i64 t323, .slice Ao68 t324.length co68, .slice Ao69 t327.length co69] 29 (0, 0))) := ⟨by rw [← hq_]; exact (zK BK330)⟩; have n14_ : Aside0 (Below w.heap.size w w71) := ⟨by rw [← hq_]; exact (zB HB)⟩; clear HO301 HO304 HO308 HO311 HO314 HO318 HO321 HO326 HO329 HO333 BK294 BK295 BK322 BK330 HB hq_; have HO301 := n0_; have HO304 := n1_; have HO308 := n2_; have HO311 := n3_; have HO314 := n4_; have HO318 := n5_; have HO321 := n6_; have HO326 := n7_; have HO329 := n8_; have HO333 := n9_; have BK294 := n10_; have BK295 := n11_; have BK322 := n12_; have BK330 := n13_; have HB := n14_; clear n0_ n1_ n2_ n3_ n4_ n5_ n6_ n7_ n8_ n9_ n10_ n11_ n12_ n13_ n14_; have hcw294_0 : w71.cell? ⟨gb294, 0, none⟩ = some (.int .i64 a0_0) := bc0 BK294; have hfw294_0 := bf BK294 0; have hcw294_1 : w71.cell? ⟨gb294, 1, none⟩ = some (.slice A0_1 l0_1.length c0_1) := bc1 BK294; have hfw294_1 := bf BK294 1; have hcw294_2 : w71.cell? ⟨gb294, 2, none⟩ = some (.slice A0_2 l0_2.length c0_2) := bc2 BK294; have hfw294_2 := bf BK294 2; have hcw295_0 : w71.cell? ⟨gb295, 0, none⟩ = some (.int .i64 a1_0) := bc0 BK295; have hfw295_0 := bf BK295 0; have hcw295_1 : w71.cell? ⟨gb295, 1, none⟩ = some (.slice A1_1 l1_1.length c1_1) := bc1 BK295; have hfw295_1 := bf BK295 1; have hcw295_2 : w71.cell? ⟨gb295, 2, none⟩ = some (.slice A1_2 l1_2.length c1_2) := bc2 BK295; have hfw295_2 := bf BK295 2; have hcw322_0 : w71.cell? ⟨gb322, 0, none⟩ = some (.int .i64 t315) := bc0 BK322; have hfw322_0 := bf BK322 0; have hcw322_1 : w71.cell? ⟨gb322, 1, none⟩ = some (.slice Ao59 t316.length co59) := bc1 BK322; have hfw322_1 := bf BK322 1; have hcw322_2 : w71.cell? ⟨gb322, 2, none⟩ = some (.slice Ao60 t319.length co60) := bc2 BK322; have hfw322_2 := bf BK322 2; have hcw330_0 : w71.cell? ⟨gb330, 0, none⟩ = some (.int .i64 t323) := bc0 BK330; have hfw330_0 := bf BK330 0; have hcw330_1 : w71.cell? ⟨gb330, 1, none⟩ = some (.slice Ao68 t324.length co68) := bc1 BK330; have hfw330_1 := bf BK330 1; have hcw330_2 : w71.cell? ⟨gb330, 2, none⟩ = some (.slice Ao69 t327.length co69) := bc2 BK330; have hfw330_2 := bf BK330 2))
      try (obtain ⟨wn_, hwn_⟩ : ∃ x_ : World, x_ = w71.drewN nd := ⟨_, rfl⟩; rw [← hwn_]; have hq_ := Kd.R_drewN HO301.out nd; rw [← hwn_] at hq_; replace HO301 := Aside0.mk hq_; clear hq_; have hq_ := Kd.R_drewN HO304.out nd; rw [← hwn_] at hq_; replace HO304 := Aside0.mk hq_; clear hq_; have hq_ := Kd.R_drewN HO308.out nd; rw [← hwn_] at hq_; replace HO308 := Aside0.mk hq_; clear hq_; have hq_ := Kd.R_drewN HO311.out nd; rw [← hwn_] at hq_; replace HO311 := Aside0.mk hq_; clear hq_; have hq_ := Kd.S_drewN HO314.out nd; rw [← hwn_] at hq_; replace HO314 := Aside0.mk hq_; clear hq_; have hq_ := Kd.R_drewN HO318.out nd; rw [← hwn_] at hq_; replace HO318 := Aside0.mk hq_; clear hq_; have hq_ := Kd.R_drewN HO321.out nd; rw [← hwn_] at hq_; replace HO321 := Aside0.mk hq_; clear hq_; have hq_ := Kd.R_drewN HO326.out nd; rw [← hwn_] at hq_; replace HO326 := Aside0.mk hq_; clear hq_; have hq_ := Kd.R_drewN HO329.out nd; rw [← hwn_] at hq_; replace HO329 := Aside0.mk hq_; clear hq_; have hq_ := Kd.S_drewN HO333.out nd; rw [← hwn_] at hq_; replace HO333 := Aside0.mk hq_; clear hq_; have hq_ := blk_drewN BK294.out nd; rw [← hwn_] at hq_; replace BK294 := Aside0.mk hq_; clear hq_; have hq_ := blk_drewN BK295.out nd; rw [← hwn_] at hq_; replace BK295 := Aside0.mk hq_; clear hq_; have hq_ := blk_drewN BK322.out nd; rw [← hwn_] at hq_; replace BK322 := Aside0.mk hq_; clear hq_; have hq_ := blk_drewN BK330.out nd; rw [← hwn_] at hq_; replace BK330 := Aside0.mk hq_; clear hq_; have hq_ := pw_below_drewN HB.out nd; rw [← hwn_] at hq_; replace HB := Aside0.mk hq_; clear hq_; clear hwn_)
      replace HO301 := Aside0.mk (Kd.R_drew HO301.out)
      replace HO304 := Aside0.mk (Kd.R_drew HO304.out)
      replace HO308 := Aside0.mk (Kd.R_drew HO308.out)
      replace HO311 := Aside0.mk (Kd.R_drew HO311.out)
      replace HO314 := Aside0.mk (Kd.S_drew HO314.out)
      replace HO318 := Aside0.mk (Kd.R_drew HO318.out)
      replace HO321 := Aside0.mk (Kd.R_drew HO321.out)
      replace HO326 := Aside0.mk (Kd.R_drew HO326.out)
      replace HO329 := Aside0.mk (Kd.R_drew HO329.out)
      replace HO333 := Aside0.mk (Kd.S_drew HO333.out)
      replace BK294 := Aside0.mk (blk_drew BK294.out)
      replace BK295 := Aside0.mk (blk_drew BK295.out)
      replace BK322 := Aside0.mk (blk_drew BK322.out)
      replace BK330 := Aside0.mk (blk_drew BK330.out)
      replace HB := Aside0.mk (below_drew1 HB.out)
      refine start_ (n := 5) (S := fun w' => w'.cell? ⟨gb322, 0, none⟩ = some (.int .i64 t315) ∧ w'.cell? ⟨gb322, 1, none⟩ = some (.slice Ao59 t316.length co59) ∧ w'.cell? ⟨gb322, 2, none⟩ = some (.slice Ao60 t319.length co60) ∧ w'.cell? ⟨gb294, 0, none⟩ = some (.int .i64 a0_0) ∧ w'.cell? ⟨gb294, 1, none⟩ = some (.slice A0_1 l0_1.length c0_1) ∧ w'.cell? ⟨gb294, 2, none⟩ = some (.slice A0_2 l0_2.length c0_2)) (ds := []) #[false, false, false, false, false] (by kernel_rfl) rfl rfl ⟨bc0 BK322, bc1 BK322, bc2 BK322, bc0 BK294, bc1 BK294, bc2 BK294⟩ (fun hHeld => ?_)
      first | (generalize wn_.drew = w74 at HO301 HO304 HO308 HO311 HO314 HO318 HO321 HO326 HO329 HO333 BK294 BK295 BK322 BK330 HB hHeld ⊢) | (generalize w71.drew = w74 at HO301 HO304 HO308 HO311 HO314 HO318 HO321 HO326 HO329 HO333 BK294 BK295 BK322 BK330 HB hHeld ⊢)
      refine take_ (i := 0) (N := some 48) (v := ?_) (a' := ?_) #[true, false, false, false, false] rfl rfl (by kernel_rfl) (fun _ _ _ h => h) (Or.inl ⟨by rfl, ?_⟩) hHeld ?_ ?_
      rotate_left
      ·rintro w' ⟨s0, s1, s2, s3, s4, s5⟩
       go_simp
       with_reducible rfl
      rotate_left
      ·simp only [Act.put, List.setIfInBounds_toArray, List.set_cons_zero, List.set_cons_succ, i64_w, i32_w]
       rfl
      refine take_ (i := 1) (N := some 49) (v := ?_) (a' := ?_) #[true, true, false, false, false] rfl rfl (by kernel_rfl) (fun _ _ _ h => h) (Or.inl ⟨by rfl, ?_⟩) hHeld ?_ ?_
      rotate_left
      ·rintro w' ⟨s0, s1, s2, s3, s4, s5⟩
       go_simp
       with_reducible rfl
      rotate_left
      ·simp only [Act.put, List.setIfInBounds_toArray, List.set_cons_zero, List.set_cons_succ, i64_w, i32_w]
       rfl
      refine one_ (i := 2) (N := some 50) #[true, true, true, false, false] rfl rfl (by kernel_rfl) (by decide) (fun K hK => ?_)
      refine goes_ Try.func8 (by kernel_rfl) rfl #[.agg #[.int .i64 a0_0, .slice A0_1 l0_1.length c0_1, .slice A0_2 l0_2.length c0_2]] (by rfl) rfl rfl zG ?_
      with_reducible refine (laws_toMachine.calls k a0_0 _ _ l0_1 _ _ l0_2 t335 t336 t339 _ ?side1 ?side2 ?side3 ?side4 A29.out).mono ?_
      (case side1 => exact cS HR0_1 HB)
      (case side2 => exact HC0_1.out)
      (case side3 => exact cS HR0_2 HB)
      (case side4 => exact HC0_2.out)
      rintro e w75 ⟨v337, v340, rfl, ho0, ho1, hb⟩
      refine ⟨_, rfl, ?_⟩
      replace HO314 := Aside0.mk (Kd.S_below (zS HO314) hb)
      replace HO333 := Aside0.mk (Kd.S_below (zS HO333) hb)
      have HO338 := Aside0.mk (Kd.R_lower (Kd.R_new' (Kd.R_new' (Kd.R_new' (Kd.R_new' ho0 (Kd.R_lt (zR HO301))) (Kd.R_lt (zR HO308))) (Kd.R_lt (zR HO318))) (Kd.R_lt (zR HO326))) (below_size (zB HB)))
      replace HO301 := Aside0.mk (Kd.R_elder' (zR HO301) (Kd.R_base ho0) hb)
      replace HO308 := Aside0.mk (Kd.R_elder' (zR HO308) (Kd.R_base ho0) hb)
      replace HO318 := Aside0.mk (Kd.R_elder' (zR HO318) (Kd.R_base ho0) hb)
      replace HO326 := Aside0.mk (Kd.R_elder' (zR HO326) (Kd.R_base ho0) hb)
      have HO341 := Aside0.mk (Kd.R_lower (Kd.R_new' (Kd.R_new' (Kd.R_new' (Kd.R_new' ho1 (Kd.R_lt (zR HO304))) (Kd.R_lt (zR HO311))) (Kd.R_lt (zR HO321))) (Kd.R_lt (zR HO329))) (below_size (zB HB)))
      replace HO304 := Aside0.mk (Kd.R_elder' (zR HO304) (Kd.R_base ho1) hb)
      replace HO311 := Aside0.mk (Kd.R_elder' (zR HO311) (Kd.R_base ho1) hb)
      replace HO321 := Aside0.mk (Kd.R_elder' (zR HO321) (Kd.R_base ho1) hb)
      replace HO329 := Aside0.mk (Kd.R_elder' (zR HO329) (Kd.R_base ho1) hb)
      replace BK294 := kB BK294 hb
      replace BK295 := kB BK295 hb
      replace BK322 := kB BK322 hb
      replace BK330 := kB BK330 hb
      replace HB := bS HB hb
      (try clear hb)
      (try clear hb2)
      (try clear hk)
      (try clear hi)
      (try clear ho0)
      (try clear ho1)
      obtain ⟨Ao76, co76, eo76⟩ := Kd.R_slice HO338.out
      (first | subst eo76 | (injection eo76 with f1_ f2_ f3_; have f4_ := f1_.symm; have f5_ := f3_.symm; clear f1_ f2_ f3_; subst f4_; subst f5_))
      obtain ⟨Ao77, co77, eo77⟩ := Kd.R_slice HO341.out
      (first | subst eo77 | (injection eo77 with f1_ f2_ f3_; have f4_ := f1_.symm; have f5_ := f3_.symm; clear f1_ f2_ f3_; subst f4_; subst f5_))
      refine hK.out _ _ ⟨bc0 BK322, bc1 BK322, bc2 BK322, bc0 BK294, bc1 BK294, bc2 BK294⟩ (fun hHeld => ?_)
      clear hK K
      refine norm_ (a' := ?_) ?_ ?_
      rotate_left
      ·show Act.put _ (some 50) _ = _
       simp only [Act.put, List.setIfInBounds_toArray, List.set_cons_zero, List.set_cons_succ, i64_w, i32_w]
       rfl
      refine one_ (i := 3) (N := some 51) #[true, true, true, true, false] rfl rfl (by kernel_rfl) (by decide) (fun K hK => ?_)
      refine goes_ Try.func10 (by kernel_rfl) rfl #[.agg #[.int .i64 t315, .slice Ao59 t316.length co59, .slice Ao60 t319.length co60], .agg #[.int .i64 t335, .slice Ao76 t336.length co76, .slice Ao77 t339.length co77]] (by rfl) rfl rfl zG ?_
      with_reducible refine (laws_eqMachine.calls k t315 _ _ t316 _ _ t319 t335 _ _ t336 _ _ t339 true _ ?side1 ?side2 ?side3 ?side4 ?side5 ?side6 ?side7 ?side8 A30.out).mono ?_
      (case side1 => repeat (first | exact (Kd.R_reads' HO318.out).2.2 | (with_reducible refine Kd.C_alloc ?_ _) | (with_reducible refine Kd.C_drewN ?_ _) | (with_reducible refine Kd.C_drew ?_)))
      (case side2 => exact (Kd.R_reads' HO318.out).2.1)
      (case side3 => repeat (first | exact (Kd.R_reads' HO321.out).2.2 | (with_reducible refine Kd.C_alloc ?_ _) | (with_reducible refine Kd.C_drewN ?_ _) | (with_reducible refine Kd.C_drew ?_)))
      (case side4 => exact (Kd.R_reads' HO321.out).2.1)
      (case side5 => repeat (first | exact (Kd.R_reads' HO338.out).2.2 | (with_reducible refine Kd.C_alloc ?_ _) | (with_reducible refine Kd.C_drewN ?_ _) | (with_reducible refine Kd.C_drew ?_)))
      (case side6 => exact (Kd.R_reads' HO338.out).2.1)
      (case side7 => repeat (first | exact (Kd.R_reads' HO341.out).2.2 | (with_reducible refine Kd.C_alloc ?_ _) | (with_reducible refine Kd.C_drewN ?_ _) | (with_reducible refine Kd.C_drew ?_)))
      (case side8 => exact (Kd.R_reads' HO341.out).2.1)
      rintro e w78 ⟨rfl, hb⟩
      refine ⟨_, rfl, ?_⟩
      replace HO301 := Aside0.mk (Kd.R_below (zR HO301) hb)
      replace HO304 := Aside0.mk (Kd.R_below (zR HO304) hb)
      replace HO308 := Aside0.mk (Kd.R_below (zR HO308) hb)
      replace HO311 := Aside0.mk (Kd.R_below (zR HO311) hb)
      replace HO314 := Aside0.mk (Kd.S_below (zS HO314) hb)
      replace HO318 := Aside0.mk (Kd.R_below (zR HO318) hb)
      replace HO321 := Aside0.mk (Kd.R_below (zR HO321) hb)
      replace HO326 := Aside0.mk (Kd.R_below (zR HO326) hb)
      replace HO329 := Aside0.mk (Kd.R_below (zR HO329) hb)
      replace HO333 := Aside0.mk (Kd.S_below (zS HO333) hb)
      replace HO338 := Aside0.mk (Kd.R_below (zR HO338) hb)
      replace HO341 := Aside0.mk (Kd.R_below (zR HO341) hb)
      replace BK294 := kB BK294 hb
      replace BK295 := kB BK295 hb
      replace BK322 := kB BK322 hb
      replace BK330 := kB BK330 hb
      replace HB := bS HB hb
      (try clear hb)
      (try clear hb2)
      (try clear hk)
      (try clear hi)
      refine hK.out _ _ ⟨bc0 BK322, bc1 BK322, bc2 BK322, bc0 BK294, bc1 BK294, bc2 BK294⟩ (fun hHeld => ?_)
      clear hK K
      refine norm_ (a' := ?_) ?_ ?_
      rotate_left
      ·show Act.put _ (some 51) _ = _
       simp only [Act.put, List.setIfInBounds_toArray, List.set_cons_zero, List.set_cons_succ, i64_w, i32_w]
       rfl
      refine pure_ (i := 4) (N := some 52) (v := ?_) (a' := ?_) #[true, true, true, true, true] rfl rfl (by kernel_rfl) (fun _ _ _ h => h) (Or.inl ⟨by rfl, ?_⟩) ?_ ?_
      rotate_left
      ·intro w'
       go_simp
       with_reducible rfl
      rotate_left
      ·simp only [Act.put, List.setIfInBounds_toArray, List.set_cons_zero, List.set_cons_succ, i64_w, i32_w]
       rfl
      refine done_ (by kernel_rfl) ?_
      try clear hHeld
      try go_wp2
      replace HO301 := Aside0.mk (Kd.R_drew HO301.out)
      replace HO304 := Aside0.mk (Kd.R_drew HO304.out)
      replace HO308 := Aside0.mk (Kd.R_drew HO308.out)
      replace HO311 := Aside0.mk (Kd.R_drew HO311.out)
      replace HO314 := Aside0.mk (Kd.S_drew HO314.out)
      replace HO318 := Aside0.mk (Kd.R_drew HO318.out)
      replace HO321 := Aside0.mk (Kd.R_drew HO321.out)
      replace HO326 := Aside0.mk (Kd.R_drew HO326.out)
      replace HO329 := Aside0.mk (Kd.R_drew HO329.out)
      replace HO333 := Aside0.mk (Kd.S_drew HO333.out)
      replace HO338 := Aside0.mk (Kd.R_drew HO338.out)
      replace HO341 := Aside0.mk (Kd.R_drew HO341.out)
      replace BK294 := Aside0.mk (blk_drew BK294.out)
      replace BK295 := Aside0.mk (blk_drew BK295.out)
      replace BK322 := Aside0.mk (blk_drew BK322.out)
      replace BK330 := Aside0.mk (blk_drew BK330.out)
      replace HB := Aside0.mk (below_drew1 HB.out)
      refine start_ (n := 5) (S := fun w' => w'.cell? ⟨gb330, 0, none⟩ = some (.int .i64 t323) ∧ w'.cell? ⟨gb330, 1, none⟩ = some (.slice Ao68 t324.length co68) ∧ w'.cell? ⟨gb330, 2, none⟩ = some (.slice Ao69 t327.length co69) ∧ w'.cell? ⟨gb295, 0, none⟩ = some (.int .i64 a1_0) ∧ w'.cell? ⟨gb295, 1, none⟩ = some (.slice A1_1 l1_1.length c1_1) ∧ w'.cell? ⟨gb295, 2, none⟩ = some (.slice A1_2 l1_2.length c1_2)) (ds := []) #[false, false, false, false, false] (by kernel_rfl) rfl rfl ⟨bc0 BK330, bc1 BK330, bc2 BK330, bc0 BK295, bc1 BK295, bc2 BK295⟩ (fun hHeld => ?_)
      generalize w78.drew = w79 at HO301 HO304 HO308 HO311 HO314 HO318 HO321 HO326 HO329 HO333 HO338 HO341 BK294 BK295 BK322 BK330 HB hHeld ⊢
      refine take_ (i := 0) (N := some 53) (v := ?_) (a' := ?_) #[true, false, false, false, false] rfl rfl (by kernel_rfl) (fun _ _ _ h => h) (Or.inl ⟨by rfl, ?_⟩) hHeld ?_ ?_
      rotate_left
      ·rintro w' ⟨s0, s1, s2, s3, s4, s5⟩
       go_simp
       with_reducible rfl
      rotate_left
      ·simp only [Act.put, List.setIfInBounds_toArray, List.set_cons_zero, List.set_cons_succ, i64_w, i32_w]
       rfl
      refine take_ (i := 1) (N := some 54) (v := ?_) (a' := ?_) #[true, true, false, false, false] rfl rfl (by kernel_rfl) (fun _ _ _ h => h) (Or.inl ⟨by rfl, ?_⟩) hHeld ?_ ?_
      rotate_left
      ·rintro w' ⟨s0, s1, s2, s3, s4, s5⟩
       go_simp
       with_reducible rfl
      rotate_left
      ·simp only [Act.put, List.setIfInBounds_toArray, List.set_cons_zero, List.set_cons_succ, i64_w, i32_w]
       rfl
      refine one_ (i := 2) (N := some 55) #[true, true, true, false, false] rfl rfl (by kernel_rfl) (by decide) (fun K hK => ?_)
      refine goes_ Try.func8 (by kernel_rfl) rfl #[.agg #[.int .i64 a1_0, .slice A1_1 l1_1.length c1_1, .slice A1_2 l1_2.length c1_2]] (by rfl) rfl rfl zG ?_
      with_reducible refine (laws_toMachine.calls k a1_0 _ _ l1_1 _ _ l1_2 t343 t344 t347 _ ?side1 ?side2 ?side3 ?side4 A32.out).mono ?_
      (case side1 => exact cS HR1_1 HB)
      (case side2 => exact HC1_1.out)
      (case side3 => exact cS HR1_2 HB)
      (case side4 => exact HC1_2.out)
      rintro e w80 ⟨v345, v348, rfl, ho0, ho1, hb⟩
      refine ⟨_, rfl, ?_⟩
      replace HO314 := Aside0.mk (Kd.S_below (zS HO314) hb)
      replace HO333 := Aside0.mk (Kd.S_below (zS HO333) hb)
      have HO346 := Aside0.mk (Kd.R_lower (Kd.R_new' (Kd.R_new' (Kd.R_new' (Kd.R_new' (Kd.R_new' ho0 (Kd.R_lt (zR HO301))) (Kd.R_lt (zR HO308))) (Kd.R_lt (zR HO318))) (Kd.R_lt (zR HO326))) (Kd.R_lt (zR HO338))) (below_size (zB HB)))
      replace HO301 := Aside0.mk (Kd.R_elder' (zR HO301) (Kd.R_base ho0) hb)
      replace HO308 := Aside0.mk (Kd.R_elder' (zR HO308) (Kd.R_base ho0) hb)
      replace HO318 := Aside0.mk (Kd.R_elder' (zR HO318) (Kd.R_base ho0) hb)
      replace HO326 := Aside0.mk (Kd.R_elder' (zR HO326) (Kd.R_base ho0) hb)
      replace HO338 := Aside0.mk (Kd.R_elder' (zR HO338) (Kd.R_base ho0) hb)
      have HO349 := Aside0.mk (Kd.R_lower (Kd.R_new' (Kd.R_new' (Kd.R_new' (Kd.R_new' (Kd.R_new' ho1 (Kd.R_lt (zR HO304))) (Kd.R_lt (zR HO311))) (Kd.R_lt (zR HO321))) (Kd.R_lt (zR HO329))) (Kd.R_lt (zR HO341))) (below_size (zB HB)))
      replace HO304 := Aside0.mk (Kd.R_elder' (zR HO304) (Kd.R_base ho1) hb)
      replace HO311 := Aside0.mk (Kd.R_elder' (zR HO311) (Kd.R_base ho1) hb)
      replace HO321 := Aside0.mk (Kd.R_elder' (zR HO321) (Kd.R_base ho1) hb)
      replace HO329 := Aside0.mk (Kd.R_elder' (zR HO329) (Kd.R_base ho1) hb)
      replace HO341 := Aside0.mk (Kd.R_elder' (zR HO341) (Kd.R_base ho1) hb)
      replace BK294 := kB BK294 hb
      replace BK295 := kB BK295 hb
      replace BK322 := kB BK322 hb
      replace BK330 := kB BK330 hb
      replace HB := bS HB hb
      (try clear hb)
      (try clear hb2)
      (try clear hk)
      (try clear hi)
      (try clear ho0)
      (try clear ho1)
      obtain ⟨Ao81, co81, eo81⟩ := Kd.R_slice HO346.out
      (first | subst eo81 | (injection eo81 with f1_ f2_ f3_; have f4_ := f1_.symm; have f5_ := f3_.symm; clear f1_ f2_ f3_; subst f4_; subst f5_))
      obtain ⟨Ao82, co82, eo82⟩ := Kd.R_slice HO349.out
      (first | subst eo82 | (injection eo82 with f1_ f2_ f3_; have f4_ := f1_.symm; have f5_ := f3_.symm; clear f1_ f2_ f3_; subst f4_; subst f5_))
      refine hK.out _ _ ⟨bc0 BK330, bc1 BK330, bc2 BK330, bc0 BK295, bc1 BK295, bc2 BK295⟩ (fun hHeld => ?_)
      clear hK K
      refine norm_ (a' := ?_) ?_ ?_
      rotate_left
      ·show Act.put _ (some 55) _ = _
       simp only [Act.put, List.setIfInBounds_toArray, List.set_cons_zero, List.set_cons_succ, i64_w, i32_w]
       rfl
      refine one_ (i := 3) (N := some 56) #[true, true, true, true, false] rfl rfl (by kernel_rfl) (by decide) (fun K hK => ?_)
      refine goes_ Try.func10 (by kernel_rfl) rfl #[.agg #[.int .i64 t323, .slice Ao68 t324.length co68, .slice Ao69 t327.length co69], .agg #[.int .i64 t343, .slice Ao81 t344.length co81, .slice Ao82 t347.length co82]] (by rfl) rfl rfl zG ?_
      with_reducible refine (laws_eqMachine.calls k t323 _ _ t324 _ _ t327 t343 _ _ t344 _ _ t347 true _ ?side1 ?side2 ?side3 ?side4 ?side5 ?side6 ?side7 ?side8 A33.out).mono ?_
      (case side1 => repeat (first | exact (Kd.R_reads' HO326.out).2.2 | (with_reducible refine Kd.C_alloc ?_ _) | (with_reducible refine Kd.C_drewN ?_ _) | (with_reducible refine Kd.C_drew ?_)))
      (case side2 => exact (Kd.R_reads' HO326.out).2.1)
      (case side3 => repeat (first | exact (Kd.R_reads' HO329.out).2.2 | (with_reducible refine Kd.C_alloc ?_ _) | (with_reducible refine Kd.C_drewN ?_ _) | (with_reducible refine Kd.C_drew ?_)))
      (case side4 => exact (Kd.R_reads' HO329.out).2.1)
      (case side5 => repeat (first | exact (Kd.R_reads' HO346.out).2.2 | (with_reducible refine Kd.C_alloc ?_ _) | (with_reducible refine Kd.C_drewN ?_ _) | (with_reducible refine Kd.C_drew ?_)))
      (case side6 => exact (Kd.R_reads' HO346.out).2.1)
      (case side7 => repeat (first | exact (Kd.R_reads' HO349.out).2.2 | (with_reducible refine Kd.C_alloc ?_ _) | (with_reducible refine Kd.C_drewN ?_ _) | (with_reducible refine Kd.C_drew ?_)))
      (case side8 => exact (Kd.R_reads' HO349.out).2.1)
      rintro e w83 ⟨rfl, hb⟩
      refine ⟨_, rfl, ?_⟩
      replace HO301 := Aside0.mk (Kd.R_below (zR HO301) hb)
      replace HO304 := Aside0.mk (Kd.R_below (zR HO304) hb)
      replace HO308 := Aside0.mk (Kd.R_below (zR HO308) hb)
      replace HO311 := Aside0.mk (Kd.R_below (zR HO311) hb)
      replace HO314 := Aside0.mk (Kd.S_below (zS HO314) hb)
      replace HO318 := Aside0.mk (Kd.R_below (zR HO318) hb)
      replace HO321 := Aside0.mk (Kd.R_below (zR HO321) hb)
      replace HO326 := Aside0.mk (Kd.R_below (zR HO326) hb)
      replace HO329 := Aside0.mk (Kd.R_below (zR HO329) hb)
      replace HO333 := Aside0.mk (Kd.S_below (zS HO333) hb)
      replace HO338 := Aside0.mk (Kd.R_below (zR HO338) hb)
      replace HO341 := Aside0.mk (Kd.R_below (zR HO341) hb)
      replace HO346 := Aside0.mk (Kd.R_below (zR HO346) hb)
      replace HO349 := Aside0.mk (Kd.R_below (zR HO349) hb)
      replace BK294 := kB BK294 hb
      replace BK295 := kB BK295 hb
      replace BK322 := kB BK322 hb
      replace BK330 := kB BK330 hb
      replace HB := bS HB hb
      (try clear hb)
      (try clear hb2)
      (try clear hk)
      (try clear hi)
      refine hK.out _ _ ⟨bc0 BK330, bc1 BK330, bc2 BK330, bc0 BK295, bc1 BK295, bc2 BK295⟩ (fun hHeld => ?_)
      clear hK K
      refine norm_ (a' := ?_) ?_ ?_
      rotate_left
      ·show Act.put _ (some 56) _ = _
       simp only [Act.put, List.setIfInBounds_toArray, List.set_cons_zero, List.set_cons_succ, i64_w, i32_w]
       rfl
      refine pure_ (i := 4) (N := some 57) (v := ?_) (a' := ?_) #[true, true, true, true, true] rfl rfl (by kernel_rfl) (fun _ _ _ h => h) (Or.inl ⟨by rfl, ?_⟩) ?_ ?_
      rotate_left
      ·intro w'
       go_simp
       with_reducible rfl
      rotate_left
      ·simp only [Act.put, List.setIfInBounds_toArray, List.set_cons_zero, List.set_cons_succ, i64_w, i32_w]
       rfl
      refine done_ (by kernel_rfl) ?_
      try clear hHeld
      have hcz84_0 := bc0 BK322
      have hcz84_1 := bc1 BK322
      have hcz84_2 := bc2 BK322
      have hfz84_0 := bf BK322 0
      have hfz84_1 := bf BK322 1
      have hfz84_2 := bf BK322 2
      go_upto_region 21 with (first | ((with_reducible refine gate_callee (f := 11) rfl ?_); refine goesL_ (some 60) rfl rfl Try.func11 (by kernel_rfl) rfl #[.agg #[.int .i64 t315, .slice Ao59 t316.length co59, .slice Ao60 t319.length co60], .int .i64 1] rfl zG ?_; (with_reducible refine (laws_markMachine.calls k t315 (fun k_ => some k_ = (.slice Ao59 t316.length co59 : Value).ownBlock) (.slice Ao59 t316.length co59) t316 (fun k_ => some k_ = (.slice Ao60 t319.length co60 : Value).ownBlock) (.slice Ao60 t319.length co60) t319 1 t351 t352 t353 w _ ?side1 ?side2 ?side3 A35.out).mono ?_); (case side1 => repeat (first | (with_reducible first | exact HB.out | apply below_alloc | apply pw_below_drewN | apply below_drew1 | refine below_set ?_ GE294.out | refine below_set ?_ GE295.out | refine below_set ?_ GE322.out | refine below_set ?_ GE330.out) | exact HB.out)); (case side2 => exact Kd.R_tight rfl HO318.out); (case side3 => exact Kd.R_tight rfl HO321.out); rintro e w85 ⟨rfl, hy0, hy1, hb, hkp⟩; refine ⟨_, rfl, ?_⟩; replace BK294 := Aside0.mk (blk_kept (zK BK294) hkp (fun hs_ => Or.elim hs_ (fun e_ => (fun e_ => (Kd.R_ne HO318.out BK294.out (by decide)) e_) e_) (fun e_ => (fun e_ => (Kd.R_ne HO321.out BK294.out (by decide)) e_) e_))); replace BK295 := Aside0.mk (blk_kept (zK BK295) hkp (fun hs_ => Or.elim hs_ (fun e_ => (fun e_ => (Kd.R_ne HO318.out BK295.out (by decide)) e_) e_) (fun e_ => (fun e_ => (Kd.R_ne HO321.out BK295.out (by decide)) e_) e_))); replace HO301 := Aside0.mk (Kd.R_mono (ok' := fun k_ => some k_ ≠ (.slice Ao50 t306.length co50 : Value).ownBlock ∧ some k_ ≠ (.slice Ao59 t316.length co59 : Value).ownBlock ∧ some k_ ≠ (.slice Ao68 t324.length co68 : Value).ownBlock ∧ some k_ ≠ (.slice Ao76 t336.length co76 : Value).ownBlock ∧ some k_ ≠ (.slice Ao81 t344.length co81 : Value).ownBlock) (Kd.R_keptB ((Kd.R_apart' HO301.out (Kd.R_typed HO321.out) (by decide))) hkp (fun k_ hk_ hs_ => Or.elim hs_ (fun e_ => ne_pick hk_ e_) (fun e_ => ne_pick hk_ e_))) (fun k_ hk_ => ⟨(pick hk_), (pick hk_), (pick hk_), (pick hk_), (pick hk_)⟩)); replace HO304 := Aside0.mk (Kd.R_mono (ok' := fun k_ => some k_ ≠ (.slice Ao51 t309.length co51 : Value).ownBlock ∧ some k_ ≠ (.slice Ao60 t319.length co60 : Value).ownBlock ∧ some k_ ≠ (.slice Ao69 t327.length co69 : Value).ownBlock ∧ some k_ ≠ (.slice Ao77 t339.length co77 : Value).ownBlock ∧ some k_ ≠ (.slice Ao82 t347.length co82 : Value).ownBlock) (Kd.R_keptB ((Kd.R_apart' HO304.out (Kd.R_typed HO318.out) (by decide))) hkp (fun k_ hk_ hs_ => Or.elim hs_ (fun e_ => ne_pick hk_ e_) (fun e_ => ne_pick hk_ e_))) (fun k_ hk_ => ⟨(pick hk_), (pick hk_), (pick hk_), (pick hk_), (pick hk_)⟩)); replace HO308 := Aside0.mk (Kd.R_mono (ok' := fun k_ => some k_ ≠ (.slice Ao48 t299.length co48 : Value).ownBlock ∧ some k_ ≠ (.slice Ao59 t316.length co59 : Value).ownBlock ∧ some k_ ≠ (.slice Ao68 t324.length co68 : Value).ownBlock ∧ some k_ ≠ (.slice Ao76 t336.length co76 : Value).ownBlock ∧ some k_ ≠ (.slice Ao81 t344.length co81 : Value).ownBlock) (Kd.R_keptB ((Kd.R_apart' HO308.out (Kd.R_typed HO321.out) (by decide))) hkp (fun k_ hk_ hs_ => Or.elim hs_ (fun e_ => ne_pick hk_ e_) (fun e_ => ne_pick hk_ e_))) (fun k_ hk_ => ⟨(pick hk_), (pick hk_), (pick hk_), (pick hk_), (pick hk_)⟩)); replace HO311 := Aside0.mk (Kd.R_mono (ok' := fun k_ => some k_ ≠ (.slice Ao49 t302.length co49 : Value).ownBlock ∧ some k_ ≠ (.slice Ao60 t319.length co60 : Value).ownBlock ∧ some k_ ≠ (.slice Ao69 t327.length co69 : Value).ownBlock ∧ some k_ ≠ (.slice Ao77 t339.length co77 : Value).ownBlock ∧ some k_ ≠ (.slice Ao82 t347.length co82 : Value).ownBlock) (Kd.R_keptB ((Kd.R_apart' HO311.out (Kd.R_typed HO318.out) (by decide))) hkp (fun k_ hk_ hs_ => Or.elim hs_ (fun e_ => ne_pick hk_ e_) (fun e_ => ne_pick hk_ e_))) (fun k_ hk_ => ⟨(pick hk_), (pick hk_), (pick hk_), (pick hk_), (pick hk_)⟩)); replace HO314 := Aside0.mk (Kd.S_mono (ok' := fun k_ => k_ < lo_) (Kd.S_keptB ((Kd.S_apart' (Kd.S_apart' HO314.out (Kd.R_typed HO318.out) (by decide)) (Kd.R_typed HO321.out) (by decide))) hkp (fun k_ hk_ hs_ => Or.elim hs_ (fun e_ => ne_pick hk_ e_) (fun e_ => ne_pick hk_ e_))) (fun k_ hk_ => (pick hk_))); replace BK322 := Aside0.mk (blk_kept (zK BK322) hkp (fun hs_ => Or.elim hs_ (fun e_ => (fun e_ => (Kd.R_ne HO318.out BK322.out (by decide)) e_) e_) (fun e_ => (fun e_ => (Kd.R_ne HO321.out BK322.out (by decide)) e_) e_))); replace HO326 := Aside0.mk (Kd.R_mono (ok' := fun k_ => some k_ ≠ (.slice Ao48 t299.length co48 : Value).ownBlock ∧ some k_ ≠ (.slice Ao50 t306.length co50 : Value).ownBlock ∧ some k_ ≠ (.slice Ao59 t316.length co59 : Value).ownBlock ∧ some k_ ≠ (.slice Ao76 t336.length co76 : Value).ownBlock ∧ some k_ ≠ (.slice Ao81 t344.length co81 : Value).ownBlock) (Kd.R_keptB ((Kd.R_apart' HO326.out (Kd.R_typed HO321.out) (by decide))) hkp (fun k_ hk_ hs_ => Or.elim hs_ (fun e_ => ne_pick hk_ e_) (fun e_ => ne_pick hk_ e_))) (fun k_ hk_ => ⟨(pick hk_), (pick hk_), (pick hk_), (pick hk_), (pick hk_)⟩)); replace HO329 := Aside0.mk (Kd.R_mono (ok' := fun k_ => some k_ ≠ (.slice Ao49 t302.length co49 : Value).ownBlock ∧ some k_ ≠ (.slice Ao51 t309.length co51 : Value).ownBlock ∧ some k_ ≠ (.slice Ao60 t319.length co60 : Value).ownBlock ∧ some k_ ≠ (.slice Ao77 t339.length co77 : Value).ownBlock ∧ some k_ ≠ (.slice Ao82 t347.length co82 : Value).ownBlock) (Kd.R_keptB ((Kd.R_apart' HO329.out (Kd.R_typed HO318.out) (by decide))) hkp (fun k_ hk_ hs_ => Or.elim hs_ (fun e_ => ne_pick hk_ e_) (fun e_ => ne_pick hk_ e_))) (fun k_ hk_ => ⟨(pick hk_), (pick hk_), (pick hk_), (pick hk_), (pick hk_)⟩)); replace BK330 := Aside0.mk (blk_kept (zK BK330) hkp (fun hs_ => Or.elim hs_ (fun e_ => (fun e_ => (Kd.R_ne HO318.out BK330.out (by decide)) e_) e_) (fun e_ => (fun e_ => (Kd.R_ne HO321.out BK330.out (by decide)) e_) e_))); replace HO333 := Aside0.mk (Kd.S_mono (ok' := fun k_ => lo_ ≤ k_) (Kd.S_keptB ((Kd.S_apart' (Kd.S_apart' HO333.out (Kd.R_typed HO318.out) (by decide)) (Kd.R_typed HO321.out) (by decide))) hkp (fun k_ hk_ hs_ => Or.elim hs_ (fun e_ => ne_pick hk_ e_) (fun e_ => ne_pick hk_ e_))) (fun k_ hk_ => (pick hk_))); replace HO338 := Aside0.mk (Kd.R_mono (ok' := fun k_ => some k_ ≠ (.slice Ao48 t299.length co48 : Value).ownBlock ∧ some k_ ≠ (.slice Ao50 t306.length co50 : Value).ownBlock ∧ some k_ ≠ (.slice Ao59 t316.length co59 : Value).ownBlock ∧ some k_ ≠ (.slice Ao68 t324.length co68 : Value).ownBlock ∧ some k_ ≠ (.slice Ao81 t344.length co81 : Value).ownBlock) (Kd.R_keptB ((Kd.R_apart' HO338.out (Kd.R_typed HO321.out) (by decide))) hkp (fun k_ hk_ hs_ => Or.elim hs_ (fun e_ => ne_pick hk_ e_) (fun e_ => ne_pick hk_ e_))) (fun k_ hk_ => ⟨(pick hk_), (pick hk_), (pick hk_), (pick hk_), (pick hk_)⟩)); replace HO341 := Aside0.mk (Kd.R_mono (ok' := fun k_ => some k_ ≠ (.slice Ao49 t302.length co49 : Value).ownBlock ∧ some k_ ≠ (.slice Ao51 t309.length co51 : Value).ownBlock ∧ some k_ ≠ (.slice Ao60 t319.length co60 : Value).ownBlock ∧ some k_ ≠ (.slice Ao69 t327.length co69 : Value).ownBlock ∧ some k_ ≠ (.slice Ao82 t347.length co82 : Value).ownBlock) (Kd.R_keptB ((Kd.R_apart' HO341.out (Kd.R_typed HO318.out) (by decide))) hkp (fun k_ hk_ hs_ => Or.elim hs_ (fun e_ => ne_pick hk_ e_) (fun e_ => ne_pick hk_ e_))) (fun k_ hk_ => ⟨(pick hk_), (pick hk_), (pick hk_), (pick hk_), (pick hk_)⟩)); replace HO346 := Aside0.mk (Kd.R_mono (ok' := fun k_ => some k_ ≠ (.slice Ao48 t299.length co48 : Value).ownBlock ∧ some k_ ≠ (.slice Ao50 t306.length co50 : Value).ownBlock ∧ some k_ ≠ (.slice Ao59 t316.length co59 : Value).ownBlock ∧ some k_ ≠ (.slice Ao68 t324.length co68 : Value).ownBlock ∧ some k_ ≠ (.slice Ao76 t336.length co76 : Value).ownBlock) (Kd.R_keptB ((Kd.R_apart' HO346.out (Kd.R_typed HO321.out) (by decide))) hkp (fun k_ hk_ hs_ => Or.elim hs_ (fun e_ => ne_pick hk_ e_) (fun e_ => ne_pick hk_ e_))) (fun k_ hk_ => ⟨(pick hk_), (pick hk_), (pick hk_), (pick hk_), (pick hk_)⟩)); replace HO321 := Aside0.mk (Kd.R_reok rfl hy1 (fun k_ e_ => HO321.out.1 k_ e_)); replace HO349 := Aside0.mk (Kd.R_mono (ok' := fun k_ => some k_ ≠ (.slice Ao49 t302.length co49 : Value).ownBlock ∧ some k_ ≠ (.slice Ao51 t309.length co51 : Value).ownBlock ∧ some k_ ≠ (.slice Ao60 t319.length co60 : Value).ownBlock ∧ some k_ ≠ (.slice Ao69 t327.length co69 : Value).ownBlock ∧ some k_ ≠ (.slice Ao77 t339.length co77 : Value).ownBlock) (Kd.R_keptB ((Kd.R_apart' HO349.out (Kd.R_typed HO318.out) (by decide))) hkp (fun k_ hk_ hs_ => Or.elim hs_ (fun e_ => ne_pick hk_ e_) (fun e_ => ne_pick hk_ e_))) (fun k_ hk_ => ⟨(pick hk_), (pick hk_), (pick hk_), (pick hk_), (pick hk_)⟩)); replace HO318 := Aside0.mk (Kd.R_reok rfl hy0 (fun k_ e_ => HO318.out.1 k_ e_)); replace HB := Aside0.mk (hb); (try clear hb); (try clear hkp); (try clear hy0); (try clear hy1); have hcz86_0 := bc0 BK330; have hcz86_1 := bc1 BK330; have hcz86_2 := bc2 BK330; have hfz86_0 := bf BK330 0; have hfz86_1 := bf BK330 1; have hfz86_2 := bf BK330 2) | ((with_reducible refine gate_callee (f := 11) rfl ?_); refine goesL_ (some 63) rfl rfl Try.func11 (by kernel_rfl) rfl #[.agg #[.int .i64 t323, .slice Ao68 t324.length co68, .slice Ao69 t327.length co69], .int .i64 t351] rfl zG ?_; (with_reducible refine (laws_markMachine.calls k t323 (fun k_ => some k_ = (.slice Ao68 t324.length co68 : Value).ownBlock) (.slice Ao68 t324.length co68) t324 (fun k_ => some k_ = (.slice Ao69 t327.length co69 : Value).ownBlock) (.slice Ao69 t327.length co69) t327 t351 t354 t355 t356 w _ ?side1 ?side2 ?side3 A36.out).mono ?_); (case side1 => repeat (first | (with_reducible first | exact HB.out | apply below_alloc | apply pw_below_drewN | apply below_drew1 | refine below_set ?_ GE294.out | refine below_set ?_ GE295.out | refine below_set ?_ GE322.out | refine below_set ?_ GE330.out) | exact HB.out)); (case side2 => exact Kd.R_tight rfl HO326.out); (case side3 => exact Kd.R_tight rfl HO329.out); rintro e w87 ⟨rfl, hy0, hy1, hb, hkp⟩; refine ⟨_, rfl, ?_⟩; replace BK294 := Aside0.mk (blk_kept (zK BK294) hkp (fun hs_ => Or.elim hs_ (fun e_ => (fun e_ => (Kd.R_ne HO326.out BK294.out (by decide)) e_) e_) (fun e_ => (fun e_ => (Kd.R_ne HO329.out BK294.out (by decide)) e_) e_))); replace BK295 := Aside0.mk (blk_kept (zK BK295) hkp (fun hs_ => Or.elim hs_ (fun e_ => (fun e_ => (Kd.R_ne HO326.out BK295.out (by decide)) e_) e_) (fun e_ => (fun e_ => (Kd.R_ne HO329.out BK295.out (by decide)) e_) e_))); replace HO301 := Aside0.mk (Kd.R_mono (ok' := fun k_ => some k_ ≠ (.slice Ao50 t306.length co50 : Value).ownBlock ∧ some k_ ≠ (.slice Ao59 t316.length co59 : Value).ownBlock ∧ some k_ ≠ (.slice Ao68 t324.length co68 : Value).ownBlock ∧ some k_ ≠ (.slice Ao76 t336.length co76 : Value).ownBlock ∧ some k_ ≠ (.slice Ao81 t344.length co81 : Value).ownBlock) (Kd.R_keptB ((Kd.R_apart' HO301.out (Kd.R_typed HO329.out) (by decide))) hkp (fun k_ hk_ hs_ => Or.elim hs_ (fun e_ => ne_pick hk_ e_) (fun e_ => ne_pick hk_ e_))) (fun k_ hk_ => ⟨(pick hk_), (pick hk_), (pick hk_), (pick hk_), (pick hk_)⟩)); replace HO304 := Aside0.mk (Kd.R_mono (ok' := fun k_ => some k_ ≠ (.slice Ao51 t309.length co51 : Value).ownBlock ∧ some k_ ≠ (.slice Ao60 t319.length co60 : Value).ownBlock ∧ some k_ ≠ (.slice Ao69 t327.length co69 : Value).ownBlock ∧ some k_ ≠ (.slice Ao77 t339.length co77 : Value).ownBlock ∧ some k_ ≠ (.slice Ao82 t347.length co82 : Value).ownBlock) (Kd.R_keptB ((Kd.R_apart' HO304.out (Kd.R_typed HO326.out) (by decide))) hkp (fun k_ hk_ hs_ => Or.elim hs_ (fun e_ => ne_pick hk_ e_) (fun e_ => ne_pick hk_ e_))) (fun k_ hk_ => ⟨(pick hk_), (pick hk_), (pick hk_), (pick hk_), (pick hk_)⟩)); replace HO308 := Aside0.mk (Kd.R_mono (ok' := fun k_ => some k_ ≠ (.slice Ao48 t299.length co48 : Value).ownBlock ∧ some k_ ≠ (.slice Ao59 t316.length co59 : Value).ownBlock ∧ some k_ ≠ (.slice Ao68 t324.length co68 : Value).ownBlock ∧ some k_ ≠ (.slice Ao76 t336.length co76 : Value).ownBlock ∧ some k_ ≠ (.slice Ao81 t344.length co81 : Value).ownBlock) (Kd.R_keptB ((Kd.R_apart' HO308.out (Kd.R_typed HO329.out) (by decide))) hkp (fun k_ hk_ hs_ => Or.elim hs_ (fun e_ => ne_pick hk_ e_) (fun e_ => ne_pick hk_ e_))) (fun k_ hk_ => ⟨(pick hk_), (pick hk_), (pick hk_), (pick hk_), (pick hk_)⟩)); replace HO311 := Aside0.mk (Kd.R_mono (ok' := fun k_ => some k_ ≠ (.slice Ao49 t302.length co49 : Value).ownBlock ∧ some k_ ≠ (.slice Ao60 t319.length co60 : Value).ownBlock ∧ some k_ ≠ (.slice Ao69 t327.length co69 : Value).ownBlock ∧ some k_ ≠ (.slice Ao77 t339.length co77 : Value).ownBlock ∧ some k_ ≠ (.slice Ao82 t347.length co82 : Value).ownBlock) (Kd.R_keptB ((Kd.R_apart' HO311.out (Kd.R_typed HO326.out) (by decide))) hkp (fun k_ hk_ hs_ => Or.elim hs_ (fun e_ => ne_pick hk_ e_) (fun e_ => ne_pick hk_ e_))) (fun k_ hk_ => ⟨(pick hk_), (pick hk_), (pick hk_), (pick hk_), (pick hk_)⟩)); replace HO314 := Aside0.mk (Kd.S_mono (ok' := fun k_ => k_ < lo_) (Kd.S_keptB ((Kd.S_apart' (Kd.S_apart' HO314.out (Kd.R_typed HO326.out) (by decide)) (Kd.R_typed HO329.out) (by decide))) hkp (fun k_ hk_ hs_ => Or.elim hs_ (fun e_ => ne_pick hk_ e_) (fun e_ => ne_pick hk_ e_))) (fun k_ hk_ => (pick hk_))); replace HO318 := Aside0.mk (Kd.R_mono (ok' := fun k_ => some k_ ≠ (.slice Ao48 t299.length co48 : Value).ownBlock ∧ some k_ ≠ (.slice Ao50 t306.length co50 : Value).ownBlock ∧ some k_ ≠ (.slice Ao68 t324.length co68 : Value).ownBlock ∧ some k_ ≠ (.slice Ao76 t336.length co76 : Value).ownBlock ∧ some k_ ≠ (.slice Ao81 t344.length co81 : Value).ownBlock) (Kd.R_keptB ((Kd.R_apart' HO318.out (Kd.R_typed HO329.out) (by decide))) hkp (fun k_ hk_ hs_ => Or.elim hs_ (fun e_ => ne_pick hk_ e_) (fun e_ => ne_pick hk_ e_))) (fun k_ hk_ => ⟨(pick hk_), (pick hk_), (pick hk_), (pick hk_), (pick hk_)⟩)); replace HO321 := Aside0.mk (Kd.R_mono (ok' := fun k_ => some k_ ≠ (.slice Ao49 t302.length co49 : Value).ownBlock ∧ some k_ ≠ (.slice Ao51 t309.length co51 : Value).ownBlock ∧ some k_ ≠ (.slice Ao69 t327.length co69 : Value).ownBlock ∧ some k_ ≠ (.slice Ao77 t339.length co77 : Value).ownBlock ∧ some k_ ≠ (.slice Ao82 t347.length co82 : Value).ownBlock) (Kd.R_keptB ((Kd.R_apart' HO321.out (Kd.R_typed HO326.out) (by decide))) hkp (fun k_ hk_ hs_ => Or.elim hs_ (fun e_ => ne_pick hk_ e_) (fun e_ => ne_pick hk_ e_))) (fun k_ hk_ => ⟨(pick hk_), (pick hk_), (pick hk_), (pick hk_), (pick hk_)⟩)); replace BK322 := Aside0.mk (blk_kept (zK BK322) hkp (fun hs_ => Or.elim hs_ (fun e_ => (fun e_ => (Kd.R_ne HO326.out BK322.out (by decide)) e_) e_) (fun e_ => (fun e_ => (Kd.R_ne HO329.out BK322.out (by decide)) e_) e_))); replace BK330 := Aside0.mk (blk_kept (zK BK330) hkp (fun hs_ => Or.elim hs_ (fun e_ => (fun e_ => (Kd.R_ne HO326.out BK330.out (by decide)) e_) e_) (fun e_ => (fun e_ => (Kd.R_ne HO329.out BK330.out (by decide)) e_) e_))); replace HO333 := Aside0.mk (Kd.S_mono (ok' := fun k_ => lo_ ≤ k_) (Kd.S_keptB ((Kd.S_apart' (Kd.S_apart' HO333.out (Kd.R_typed HO326.out) (by decide)) (Kd.R_typed HO329.out) (by decide))) hkp (fun k_ hk_ hs_ => Or.elim hs_ (fun e_ => ne_pick hk_ e_) (fun e_ => ne_pick hk_ e_))) (fun k_ hk_ => (pick hk_))); replace HO338 := Aside0.mk (Kd.R_mono (ok' := fun k_ => some k_ ≠ (.slice Ao48 t299.length co48 : Value).ownBlock ∧ some k_ ≠ (.slice Ao50 t306.length co50 : Value).ownBlock ∧ some k_ ≠ (.slice Ao59 t316.length co59 : Value).ownBlock ∧ some k_ ≠ (.slice Ao68 t324.length co68 : Value).ownBlock ∧ some k_ ≠ (.slice Ao81 t344.length co81 : Value).ownBlock) (Kd.R_keptB ((Kd.R_apart' HO338.out (Kd.R_typed HO329.out) (by decide))) hkp (fun k_ hk_ hs_ => Or.elim hs_ (fun e_ => ne_pick hk_ e_) (fun e_ => ne_pick hk_ e_))) (fun k_ hk_ => ⟨(pick hk_), (pick hk_), (pick hk_), (pick hk_), (pick hk_)⟩)); replace HO341 := Aside0.mk (Kd.R_mono (ok' := fun k_ => some k_ ≠ (.slice Ao49 t302.length co49 : Value).ownBlock ∧ some k_ ≠ (.slice Ao51 t309.length co51 : Value).ownBlock ∧ some k_ ≠ (.slice Ao60 t319.length co60 : Value).ownBlock ∧ some k_ ≠ (.slice Ao69 t327.length co69 : Value).ownBlock ∧ some k_ ≠ (.slice Ao82 t347.length co82 : Value).ownBlock) (Kd.R_keptB ((Kd.R_apart' HO341.out (Kd.R_typed HO326.out) (by decide))) hkp (fun k_ hk_ hs_ => Or.elim hs_ (fun e_ => ne_pick hk_ e_) (fun e_ => ne_pick hk_ e_))) (fun k_ hk_ => ⟨(pick hk_), (pick hk_), (pick hk_), (pick hk_), (pick hk_)⟩)); replace HO346 := Aside0.mk (Kd.R_mono (ok' := fun k_ => some k_ ≠ (.slice Ao48 t299.length co48 : Value).ownBlock ∧ some k_ ≠ (.slice Ao50 t306.length co50 : Value).ownBlock ∧ some k_ ≠ (.slice Ao59 t316.length co59 : Value).ownBlock ∧ some k_ ≠ (.slice Ao68 t324.length co68 : Value).ownBlock ∧ some k_ ≠ (.slice Ao76 t336.length co76 : Value).ownBlock) (Kd.R_keptB ((Kd.R_apart' HO346.out (Kd.R_typed HO329.out) (by decide))) hkp (fun k_ hk_ hs_ => Or.elim hs_ (fun e_ => ne_pick hk_ e_) (fun e_ => ne_pick hk_ e_))) (fun k_ hk_ => ⟨(pick hk_), (pick hk_), (pick hk_), (pick hk_), (pick hk_)⟩)); replace HO329 := Aside0.mk (Kd.R_reok rfl hy1 (fun k_ e_ => HO329.out.1 k_ e_)); replace HO349 := Aside0.mk (Kd.R_mono (ok' := fun k_ => some k_ ≠ (.slice Ao49 t302.length co49 : Value).ownBlock ∧ some k_ ≠ (.slice Ao51 t309.length co51 : Value).ownBlock ∧ some k_ ≠ (.slice Ao60 t319.length co60 : Value).ownBlock ∧ some k_ ≠ (.slice Ao69 t327.length co69 : Value).ownBlock ∧ some k_ ≠ (.slice Ao77 t339.length co77 : Value).ownBlock) (Kd.R_keptB ((Kd.R_apart' HO349.out (Kd.R_typed HO326.out) (by decide))) hkp (fun k_ hk_ hs_ => Or.elim hs_ (fun e_ => ne_pick hk_ e_) (fun e_ => ne_pick hk_ e_))) (fun k_ hk_ => ⟨(pick hk_), (pick hk_), (pick hk_), (pick hk_), (pick hk_)⟩)); replace HO326 := Aside0.mk (Kd.R_reok rfl hy0 (fun k_ e_ => HO326.out.1 k_ e_)); replace HB := Aside0.mk (hb); (try clear hb); (try clear hkp); (try clear hy0); (try clear hy1)))
      (try simp only [Act.put, List.setIfInBounds_toArray, List.set_cons_zero, List.set_cons_succ])
      go_cut [71] (fun v71 wc => ∃ (kq : Nat) (x71_36 : Bool), v71 = .bool x71_36 ∧ Aside0 (laws_FnExactNextPairs.j0 kq a2 a3 t312 t331 x71_36 a0_0 l0_1 l0_2 a1_0 l1_1 l1_2 = some r) ∧ Aside0 (kq ≤ k) ∧ Aside0 (Kd.S (Kd.slice 3 (Kd.int .i64)) 37 wc w.heap.size (fun k_ => k_ < lo_) (.slice Ao73 t312.length co73) t312) ∧ Aside0 (Kd.S (Kd.slice 3 (Kd.int .i64)) 37 wc w.heap.size (fun k_ => lo_ ≤ k_) (.slice Ao72 t331.length co72) t331) ∧ Aside0 (Kd.R Kd.bool 4 wc w.heap.size (fun k_ => some k_ ≠ ((.slice Ao68 t324.length co68) : Value).ownBlock) (.slice Ao59 t316.length co59) t352) ∧ Aside0 (Kd.R k54 54 wc w.heap.size (fun k_ => some k_ ≠ ((.slice Ao69 t327.length co69) : Value).ownBlock) (.slice Ao60 t319.length co60) t353) ∧ Aside0 (Kd.R Kd.bool 4 wc w.heap.size (fun k_ => some k_ ≠ ((.slice Ao59 t316.length co59) : Value).ownBlock) (.slice Ao68 t324.length co68) t355) ∧ Aside0 (Kd.R k54 54 wc w.heap.size (fun k_ => some k_ ≠ ((.slice Ao60 t319.length co60) : Value).ownBlock) (.slice Ao69 t327.length co69) t356) ∧ Aside0 (wc.heap[gb294]? = some (.cells #[.int .i64 a0_0, (.slice A0_1 l0_1.length c0_1), (.slice A0_2 l0_2.length c0_2)] 25 (0, 0))) ∧ Aside0 (wc.heap[gb295]? = some (.cells #[.int .i64 a1_0, (.slice A1_1 l1_1.length c1_1), (.slice A1_2 l1_2.length c1_2)] 25 (0, 0))) ∧ Aside0 (wc.heap[gb322]? = some (.cells #[.int .i64 t315, (.slice Ao59 t316.length co59), (.slice Ao60 t319.length co60)] 29 (0, 0))) ∧ Aside0 (wc.heap[gb330]? = some (.cells #[.int .i64 t323, (.slice Ao68 t324.length co68), (.slice Ao69 t327.length co69)] 29 (0, 0))) ∧ Aside0 (Below w.heap.size w wc))
      case first =>
       have H := HC37.out
       clear HC37
       by_cases c88 : t354 < 0
       ·rw [if_pos c88] at H
        have c88b0 : decide (t354 < 0) = true := decide_eq_true c88
        clear c88
        (first | rw [c88b0] | (simp only [i64_w, i32_w]; rw [c88b0]) | skip)
        have H' := Aside0.mk H
        clear H
        go_wp2
        go_meet
        case rel => exact ⟨_, (true), zF, H', ⟨by first | omega | exact Nat.le_refl _⟩, ⟨zS HO314⟩, ⟨zS HO333⟩, ⟨by (with_reducible repeat (first | apply Kd.R_alloc | apply Kd.R_drewN | apply Kd.R_drew)); exact Kd.R_mono HO318.out (fun _ hk => hk.2.2.1)⟩, ⟨by (with_reducible repeat (first | apply Kd.R_alloc | apply Kd.R_drewN | apply Kd.R_drew)); exact Kd.R_mono HO321.out (fun _ hk => hk.2.2.1)⟩, ⟨by (with_reducible repeat (first | apply Kd.R_alloc | apply Kd.R_drewN | apply Kd.R_drew)); exact Kd.R_mono HO326.out (fun _ hk => hk.2.2.1)⟩, ⟨by (with_reducible repeat (first | apply Kd.R_alloc | apply Kd.R_drewN | apply Kd.R_drew)); exact Kd.R_mono HO329.out (fun _ hk => hk.2.2.1)⟩, ⟨zK BK294⟩, ⟨zK BK295⟩, ⟨zK BK322⟩, ⟨zK BK330⟩, ⟨zB HB⟩⟩
       ·rw [if_neg c88] at H
        have c88b0 : decide (t354 < 0) = false := decide_eq_false c88
        clear c88
        (first | rw [c88b0] | (simp only [i64_w, i32_w]; rw [c88b0]) | skip)
        obtain ⟨t357, A89, H⟩ := bindS H
        have H' := Aside0.mk H
        clear H
        go_wp2_with (first | (go_at_call 23; (with_reducible refine (laws_eqIntSS.calls k _ _ t331 _ _ t312 t357 _ ?side1 ?side2 ?side3 ?side4 A89.out).mono ?_); (case side1 => repeat (first | exact (Kd.S_reads' HO333.out).2.2 | (with_reducible refine Kd.C_alloc ?_ _) | (with_reducible refine Kd.C_drewN ?_ _) | (with_reducible refine Kd.C_drew ?_))); (case side2 => exact (Kd.S_reads' HO333.out).2.1); (case side3 => repeat (first | exact (Kd.S_reads' HO314.out).2.2 | (with_reducible refine Kd.C_alloc ?_ _) | (with_reducible refine Kd.C_drewN ?_ _) | (with_reducible refine Kd.C_drew ?_))); (case side4 => exact (Kd.S_reads' HO314.out).2.1); rintro e w' ⟨rfl, ⟨nd, rfl⟩⟩))
        go_meet
        case rel => exact ⟨_, (!t357), zF, H', ⟨by first | omega | exact Nat.le_refl _⟩, ⟨zS HO314⟩, ⟨zS HO333⟩, ⟨by (with_reducible repeat (first | apply Kd.R_alloc | apply Kd.R_drewN | apply Kd.R_drew)); exact Kd.R_mono HO318.out (fun _ hk => hk.2.2.1)⟩, ⟨by (with_reducible repeat (first | apply Kd.R_alloc | apply Kd.R_drewN | apply Kd.R_drew)); exact Kd.R_mono HO321.out (fun _ hk => hk.2.2.1)⟩, ⟨by (with_reducible repeat (first | apply Kd.R_alloc | apply Kd.R_drewN | apply Kd.R_drew)); exact Kd.R_mono HO326.out (fun _ hk => hk.2.2.1)⟩, ⟨by (with_reducible repeat (first | apply Kd.R_alloc | apply Kd.R_drewN | apply Kd.R_drew)); exact Kd.R_mono HO329.out (fun _ hk => hk.2.2.1)⟩, ⟨zK BK294⟩, ⟨zK BK295⟩, ⟨zK BK322⟩, ⟨zK BK330⟩, ⟨zB HB⟩⟩
      case rest =>
       clear HC37
       try clear c1
       try clear c2
       try clear p2
       try clear c5
       try clear c6
       try clear c8
       try clear c10
       try clear c11
       try clear c21
       try clear c22
       try clear c23
       try clear c56
       try clear c57
       try clear c64
       try clear c65
       try clear c66
       try clear c88
       try clear c88b0
       try clear hcz53_0
       try clear hcz53_1
       try clear hcz53_2
       try clear hcz58_0
       try clear hcz58_1
       try clear hcz58_2
       try clear hcz61_0
       try clear hcz61_1
       try clear hcz61_2
       try clear hcz67_0
       try clear hcz67_1
       try clear hcz67_2
       try clear hcz70_0
       try clear hcz70_1
       try clear hcz70_2
       try clear hcz84_0
       try clear hcz84_1
       try clear hcz84_2
       try clear hcz86_0
       try clear hcz86_1
       try clear hcz86_2
       try clear hfz53_0
       try clear hfz53_1
       try clear hfz53_2
       try clear hfz58_0
       try clear hfz58_1
       try clear hfz58_2
       try clear hfz61_0
       try clear hfz61_1
       try clear hfz61_2
       try clear hfz67_0
       try clear hfz67_1
       try clear hfz67_2
       try clear hfz70_0
       try clear hfz70_1
       try clear hfz70_2
       try clear hfz84_0
       try clear hfz84_1
       try clear hfz84_2
       try clear hfz86_0
       try clear hfz86_1
       try clear hfz86_2
       obtain ⟨kq, x71_36, rfl, HA, HJ36, HO_10, HO_13, HO_323001, HO_323002, HO_331001, HO_331002, BK294, BK295, BK322, BK330, HB⟩ := hcut
       have hl323001_36 := (Kd.R_reads' HO_323001.out).1
       rw [hl323001_36] at HO_323001
       (try simp only [hl323001_36])
       (try simp only [hl323001_36] at BK294)
       (try simp only [hl323001_36] at BK295)
       (try simp only [hl323001_36] at BK322)
       (try simp only [hl323001_36] at BK330)
       (try simp only [hl323001_36] at HO_10)
       (try simp only [hl323001_36] at HO_13)
       (try simp only [hl323001_36] at HO_323002)
       (try simp only [hl323001_36] at HO_331001)
       (try simp only [hl323001_36] at HO_331002)
       have hl323002_36 := (Kd.R_reads' HO_323002.out).1
       rw [hl323002_36] at HO_323002
       (try simp only [hl323002_36])
       (try simp only [hl323002_36] at BK294)
       (try simp only [hl323002_36] at BK295)
       (try simp only [hl323002_36] at BK322)
       (try simp only [hl323002_36] at BK330)
       (try simp only [hl323002_36] at HO_10)
       (try simp only [hl323002_36] at HO_13)
       (try simp only [hl323002_36] at HO_323001)
       (try simp only [hl323002_36] at HO_331001)
       (try simp only [hl323002_36] at HO_331002)
       have hl331001_36 := (Kd.R_reads' HO_331001.out).1
       rw [hl331001_36] at HO_331001
       (try simp only [hl331001_36])
       (try simp only [hl331001_36] at BK294)
       (try simp only [hl331001_36] at BK295)
       (try simp only [hl331001_36] at BK322)
       (try simp only [hl331001_36] at BK330)
       (try simp only [hl331001_36] at HO_10)
       (try simp only [hl331001_36] at HO_13)
       (try simp only [hl331001_36] at HO_323001)
       (try simp only [hl331001_36] at HO_323002)
       (try simp only [hl331001_36] at HO_331002)
       have hl331002_36 := (Kd.R_reads' HO_331002.out).1
       rw [hl331002_36] at HO_331002
       (try simp only [hl331002_36])
       (try simp only [hl331002_36] at BK294)
       (try simp only [hl331002_36] at BK295)
       (try simp only [hl331002_36] at BK322)
       (try simp only [hl331002_36] at BK330)
       (try simp only [hl331002_36] at HO_10)
       (try simp only [hl331002_36] at HO_13)
       (try simp only [hl331002_36] at HO_323001)
       (try simp only [hl331002_36] at HO_323002)
       (try simp only [hl331002_36] at HO_331001)
       cases kq with
       | zero => exact absurd HA.out (by simp [laws_FnExactNextPairs.j0])
       | succ kj36 =>
        have H := HA.out
        clear HA
        simp only [laws_FnExactNextPairs.j0] at H
        by_cases c90 : x71_36 = true
        ·subst c90
         have H1 : (some false) = some r := by rw [if_pos rfl] at H; exact H
         clear H
         have H := H1
         clear H1
         exact absurd H (by simp [ht_])
        ·replace c90 := Bool.eq_false_iff.mpr c90
         subst c90
         have H1 : ((laws_markIntSS.f kj36 t331 1).bind fun bt358 => ((laws_heldIntSS.f kj36 bt358.2 1).bind fun t360 => (if t360 < 0 then (some false) else (if t360 = bt358.1 then ((laws_toMachine.f kj36 a0_0 l0_1 l0_2).bind fun bt361 => ((laws_toMachine.f kj36 a1_0 l1_1 l1_2).bind fun bt368 => ((impl_NextPairs.f kj36 bt361.1 bt361.2.1 bt361.2.2 bt368.1 bt368.2.1 bt368.2.2 a2 a3).bind fun t375 => ((laws_eqIntSS.f kj36 t375 t312).bind fun t378 => (if t378 = true then ((laws_heldIntSS.f kj36 bt358.2 1).bind fun t379 => (if t379 < 0 then (some false) else (if t379 = bt358.1 then (some true) else (some false)))) else (some false)))))) else (some false))))) = some r := by rw [if_neg (show ¬ (false = true) by decide)] at H; exact H
         clear H
         have H := H1
         clear H1
         replace H := Option.bind_eq_some_iff.mp H
         obtain ⟨⟨t358, t359⟩, A910, H⟩ := H
         replace H : ((laws_heldIntSS.f kj36 t359 1).bind fun t360 => (if t360 < 0 then (some false) else (if t360 = t358 then ((laws_toMachine.f kj36 a0_0 l0_1 l0_2).bind fun bt361 => ((laws_toMachine.f kj36 a1_0 l1_1 l1_2).bind fun bt368 => ((impl_NextPairs.f kj36 bt361.1 bt361.2.1 bt361.2.2 bt368.1 bt368.2.1 bt368.2.2 a2 a3).bind fun t375 => ((laws_eqIntSS.f kj36 t375 t312).bind fun t378 => (if t378 = true then ((laws_heldIntSS.f kj36 t359 1).bind fun t379 => (if t379 < 0 then (some false) else (if t379 = t358 then (some true) else (some false)))) else (some false)))))) else (some false)))) = some r := H
         have A91 := Aside0.mk A910
         clear A910
         obtain ⟨t360, A92, H⟩ := bindS H
         by_cases c93 : t360 < 0
         ·rw [if_pos c93] at H
          have c93b0 : decide (t360 < 0) = true := decide_eq_true c93
          clear c93
          exact absurd H (by simp [ht_])
         ·rw [if_neg c93] at H
          have c93b0 : decide (t360 < 0) = false := decide_eq_false c93
          clear c93
          by_cases c94 : t360 = t358
          ·rw [if_pos c94] at H
           have c94b0 : (t360 == t358) = true := beq_iff_eq.mpr c94
           have c94b1 : (t360 != t358) = false := bne_eq_false_iff_eq.mpr c94
           clear c94
           replace H := Option.bind_eq_some_iff.mp H
           obtain ⟨⟨t361, t362, t365⟩, A950, H⟩ := H
           replace H : ((laws_toMachine.f kj36 a1_0 l1_1 l1_2).bind fun bt368 => ((impl_NextPairs.f kj36 t361 t362 t365 bt368.1 bt368.2.1 bt368.2.2 a2 a3).bind fun t375 => ((laws_eqIntSS.f kj36 t375 t312).bind fun t378 => (if t378 = true then ((laws_heldIntSS.f kj36 t359 1).bind fun t379 => (if t379 < 0 then (some false) else (if t379 = t358 then (some true) else (some false)))) else (some false))))) = some r := H
           have A95 := Aside0.mk A950
           clear A950
           replace H := Option.bind_eq_some_iff.mp H
           obtain ⟨⟨t368, t369, t372⟩, A960, H⟩ := H
           replace H : ((impl_NextPairs.f kj36 t361 t362 t365 t368 t369 t372 a2 a3).bind fun t375 => ((laws_eqIntSS.f kj36 t375 t312).bind fun t378 => (if t378 = true then ((laws_heldIntSS.f kj36 t359 1).bind fun t379 => (if t379 < 0 then (some false) else (if t379 = t358 then (some true) else (some false)))) else (some false)))) = some r := H
           have A96 := Aside0.mk A960
           clear A960
           obtain ⟨t375, A97, H⟩ := bindS H
           obtain ⟨t378, A98, H⟩ := bindS H
           by_cases c99 : t378 = true
           ·subst c99
            have H1 : ((laws_heldIntSS.f kj36 t359 1).bind fun t379 => (if t379 < 0 then (some false) else (if t379 = t358 then (some true) else (some false)))) = some r := by rw [if_pos rfl] at H; exact H
            clear H
            have H := H1
            clear H1
            obtain ⟨t379, A100, H⟩ := bindS H
            by_cases c101 : t379 < 0
            ·rw [if_pos c101] at H
             have c101b0 : decide (t379 < 0) = true := decide_eq_true c101
             clear c101
             exact absurd H (by simp [ht_])
            ·rw [if_neg c101] at H
             have c101b0 : decide (t379 < 0) = false := decide_eq_false c101
             clear c101
             by_cases c102 : t379 = t358
             ·rw [if_pos c102] at H
              have c102b0 : (t379 == t358) = true := beq_iff_eq.mpr c102
              have c102b1 : (t379 != t358) = false := bne_eq_false_iff_eq.mpr c102
              clear c102
              obtain rfl := Option.some.inj H
              obtain ⟨PG_, sg_, lg_, tg_⟩ := gh_hold HO_13.out
              have SG_ := Aside0.mk sg_
              have LG_ := Aside0.mk lg_
              have TG_ := Aside0.mk tg_
              clear sg_ lg_ tg_
              try go_wp2_with (first | ((with_reducible refine gate_callee (f := 24) rfl ?_); refine goesL_ (some 74) rfl rfl Try.func24 (by kernel_rfl) rfl #[.slice Ao72 t331.length co72, .int .i64 1] rfl zG ?_; (with_reducible refine (laws_markIntSS.calls kj36 PG_ (.slice Ao72 t331.length co72) t331 1 t358 t359 w _ ?side1 ?side2 A91.out).mono ?_); (case side1 => repeat (first | (with_reducible first | exact HB.out | apply below_alloc | apply pw_below_drewN | apply below_drew1 | refine below_set ?_ GE294.out | refine below_set ?_ GE295.out | refine below_set ?_ GE322.out | refine below_set ?_ GE330.out) | exact HB.out)); (case side2 => exact SG_.out); rintro e w103 ⟨rfl, hy0, hb, hkp⟩; refine ⟨_, rfl, ?_⟩; replace HO_10 := Aside0.mk (Kd.S_mono (ok' := fun k_ => k_ < lo_) (Kd.S_keptB (HO_10.out) hkp (fun k_ hk_ hs_ => Nat.not_le.2 hk_ (LG_.out k_ hs_))) (fun k_ hk_ => (pick hk_))); replace HO_323001 := Aside0.mk (Kd.R_mono (ok' := fun k_ => some k_ ≠ (.slice Ao68 t355.length co68 : Value).ownBlock) (Kd.R_keptB (Kd.R_bound HO_323001.out) hkp (fun k_ hk_ hs_ => gh_ne hk_.2.2.2 (TG_.out k_ hs_) (by decide))) (fun k_ hk_ => (pick hk_))); replace HO_323002 := Aside0.mk (Kd.R_mono (ok' := fun k_ => some k_ ≠ (.slice Ao69 t356.length co69 : Value).ownBlock) (Kd.R_keptB (Kd.R_bound HO_323002.out) hkp (fun k_ hk_ hs_ => gh_ne hk_.2.2.2 (TG_.out k_ hs_) (by decide))) (fun k_ hk_ => (pick hk_))); replace HO_331001 := Aside0.mk (Kd.R_mono (ok' := fun k_ => some k_ ≠ (.slice Ao59 t352.length co59 : Value).ownBlock) (Kd.R_keptB (Kd.R_bound HO_331001.out) hkp (fun k_ hk_ hs_ => gh_ne hk_.2.2.2 (TG_.out k_ hs_) (by decide))) (fun k_ hk_ => (pick hk_))); replace HO_331002 := Aside0.mk (Kd.R_mono (ok' := fun k_ => some k_ ≠ (.slice Ao60 t353.length co60 : Value).ownBlock) (Kd.R_keptB (Kd.R_bound HO_331002.out) hkp (fun k_ hk_ hs_ => gh_ne hk_.2.2.2 (TG_.out k_ hs_) (by decide))) (fun k_ hk_ => (pick hk_))); replace BK294 := Aside0.mk (blk_kept (zK BK294) hkp (fun hs_ => gh_blk BK294.out (TG_.out _ hs_) (by decide))); replace BK295 := Aside0.mk (blk_kept (zK BK295) hkp (fun hs_ => gh_blk BK295.out (TG_.out _ hs_) (by decide))); replace BK322 := Aside0.mk (blk_kept (zK BK322) hkp (fun hs_ => gh_blk BK322.out (TG_.out _ hs_) (by decide))); replace BK330 := Aside0.mk (blk_kept (zK BK330) hkp (fun hs_ => gh_blk BK330.out (TG_.out _ hs_) (by decide))); replace HO_13 := Aside0.mk (Kd.S_mono (ok' := fun _ => True) hy0 (fun _ _ => trivial)); replace HB := Aside0.mk (hb); (try clear hb); (try clear hkp); (try clear hy0)) | ((with_reducible refine gate_callee (f := 25) rfl ?_); refine goesL_ (some 77) rfl rfl Try.func25 (by kernel_rfl) rfl #[.slice Ao72 t359.length co72, .int .i64 1] rfl (by (try simp only [List.map_toArray, List.map_cons, List.map_nil]); first | done | (rw [show t359.length = t331.length from (Kd.S_reads' HO_13.out).1.symm] <;> rfl) | rfl | (simp only [List.length_drop, List.length_take]; rfl)) ?_; (with_reducible refine (laws_heldIntSS.calls kj36 _ _ t359 1 t360 _ ?side1 ?side2 A92.out).mono ?_); (case side1 => repeat (first | exact (Kd.S_reads' HO_13.out).2.2 | (with_reducible refine Kd.C_alloc ?_ _) | (with_reducible refine Kd.C_drewN ?_ _) | (with_reducible refine Kd.C_drew ?_))); (case side2 => rw [show t359.length = t331.length from (Kd.S_reads' HO_13.out).1.symm]; exact (Kd.S_reads' HO_13.out).2.1); rintro e w' ⟨rfl, ⟨nd, rfl⟩⟩; refine ⟨_, rfl, ?_⟩))
              (try (rw [drewN_self w103]; generalize hq_ : World.drewN w103 _ = w103; have n0_ : Aside0 (Kd.S (Kd.slice 3 (Kd.int .i64)) 37 w103 w.heap.size (fun k_ => k_ < lo_) (.slice Ao73 t312.length co73) t312) := ⟨by rw [← hq_]; exact (zS HO_10)⟩; have n1_ : Aside0 (Kd.S (Kd.slice 3 (Kd.int .i64)) 37 w103 w.heap.size (fun k_ => True) (.slice Ao72 t331.length co72) t359) := ⟨by rw [← hq_]; exact (zS HO_13)⟩; have n2_ : Aside0 (Kd.R Kd.bool 4 w103 w.heap.size (fun k_ => some k_ ≠ (.slice Ao68 t355.length co68 : Value).ownBlock) (.slice Ao59 t352.length co59) t352) := ⟨by rw [← hq_]; exact (zR HO_323001)⟩; have n3_ : Aside0 (Kd.R k54 54 w103 w.heap.size (fun k_ => some k_ ≠ (.slice Ao69 t356.length co69 : Value).ownBlock) (.slice Ao60 t353.length co60) t353) := ⟨by rw [← hq_]; exact (zR HO_323002)⟩; have n4_ : Aside0 (Kd.R Kd.bool 4 w103 w.heap.size (fun k_ => some k_ ≠ (.slice Ao59 t352.length co59 : Value).ownBlock) (.slice Ao68 t355.length co68) t355) := ⟨by rw [← hq_]; exact (zR HO_331001)⟩; have n5_ : Aside0 (Kd.R k54 54 w103 w.heap.size (fun k_ => some k_ ≠ (.slice Ao60 t353.length co60 : Value).ownBlock) (.slice Ao69 t356.length co69) t356) := ⟨by rw [← hq_]; exact (zR HO_331002)⟩; have n6_ : Aside0 (w103.heap[gb294]? = some (.cells #[.int .i64 a0_0, .slice A0_1 l0_1.length c0_1, .slice A0_2 l0_2.length c0_2] 25 (0, 0))) := ⟨by rw [← hq_]; exact (zK BK294)⟩; have n7_ : Aside0 (w103.heap[gb295]? = some (.cells #[.int .i64 a1_0, .slice A1_1 l1_1.length c1_1, .slice A1_2 l1_2.length c1_2] 25 (0, 0))) := ⟨by rw [← hq_]; exact (zK BK295)⟩; have n8_ : Aside0 (w103.heap[gb322]? = some (.cells #[.int .i64 t315, .slice Ao59 t352.length co59, .slice Ao60 t353.length co60] 29 (0, 0))) := ⟨by rw [← hq_]; exact (zK BK322)⟩; have n9_ : Aside0 (w103.heap[gb330]? = some (.cells #[.int .i64 t323, .slice Ao68 t355.length co68, .slice Ao69 t356.length co69] 29 (0, 0))) := ⟨by rw [← hq_]; exact (zK BK330)⟩; have n10_ : Aside0 (Below w.heap.size w w103) := ⟨by rw [← hq_]; exact (zB HB)⟩; clear HO_10 HO_13 HO_323001 HO_323002 HO_331001 HO_331002 BK294 BK295 BK322 BK330 HB hq_; have HO_10 := n0_; have HO_13 := n1_; have HO_323001 := n2_; have HO_323002 := n3_; have HO_331001 := n4_; have HO_331002 := n5_; have BK294 := n6_; have BK295 := n7_; have BK322 := n8_; have BK330 := n9_; have HB := n10_; clear n0_ n1_ n2_ n3_ n4_ n5_ n6_ n7_ n8_ n9_ n10_; have hcw294_0 : w103.cell? ⟨gb294, 0, none⟩ = some (.int .i64 a0_0) := bc0 BK294; have hfw294_0 := bf BK294 0; have hcw294_1 : w103.cell? ⟨gb294, 1, none⟩ = some (.slice A0_1 l0_1.length c0_1) := bc1 BK294; have hfw294_1 := bf BK294 1; have hcw294_2 : w103.cell? ⟨gb294, 2, none⟩ = some (.slice A0_2 l0_2.length c0_2) := bc2 BK294; have hfw294_2 := bf BK294 2; have hcw295_0 : w103.cell? ⟨gb295, 0, none⟩ = some (.int .i64 a1_0) := bc0 BK295; have hfw295_0 := bf BK295 0; have hcw295_1 : w103.cell? ⟨gb295, 1, none⟩ = some (.slice A1_1 l1_1.length c1_1) := bc1 BK295; have hfw295_1 := bf BK295 1; have hcw295_2 : w103.cell? ⟨gb295, 2, none⟩ = some (.slice A1_2 l1_2.length c1_2) := bc2 BK295; have hfw295_2 := bf BK295 2; have hcw322_0 : w103.cell? ⟨gb322, 0, none⟩ = some (.int .i64 t315) := bc0 BK322; have hfw322_0 := bf BK322 0; have hcw322_1 : w103.cell? ⟨gb322, 1, none⟩ = some (.slice Ao59 t352.length co59) := bc1 BK322; have hfw322_1 := bf BK322 1; have hcw322_2 : w103.cell? ⟨gb322, 2, none⟩ = some (.slice Ao60 t353.length co60) := bc2 BK322; have hfw322_2 := bf BK322 2; have hcw330_0 : w103.cell? ⟨gb330, 0, none⟩ = some (.int .i64 t323) := bc0 BK330; have hfw330_0 := bf BK330 0; have hcw330_1 : w103.cell? ⟨gb330, 1, none⟩ = some (.slice Ao68 t355.length co68) := bc1 BK330; have hfw330_1 := bf BK330 1; have hcw330_2 : w103.cell? ⟨gb330, 2, none⟩ = some (.slice Ao69 t356.length co69) := bc2 BK330; have hfw330_2 := bf BK330 2))
              try (obtain ⟨wn_, hwn_⟩ : ∃ x_ : World, x_ = w103.drewN nd := ⟨_, rfl⟩; rw [← hwn_]; have hq_ := Kd.S_drewN HO_10.out nd; rw [← hwn_] at hq_; replace HO_10 := Aside0.mk hq_; clear hq_; have hq_ := Kd.S_drewN HO_13.out nd; rw [← hwn_] at hq_; replace HO_13 := Aside0.mk hq_; clear hq_; have hq_ := Kd.R_drewN HO_323001.out nd; rw [← hwn_] at hq_; replace HO_323001 := Aside0.mk hq_; clear hq_; have hq_ := Kd.R_drewN HO_323002.out nd; rw [← hwn_] at hq_; replace HO_323002 := Aside0.mk hq_; clear hq_; have hq_ := Kd.R_drewN HO_331001.out nd; rw [← hwn_] at hq_; replace HO_331001 := Aside0.mk hq_; clear hq_; have hq_ := Kd.R_drewN HO_331002.out nd; rw [← hwn_] at hq_; replace HO_331002 := Aside0.mk hq_; clear hq_; have hq_ := blk_drewN BK294.out nd; rw [← hwn_] at hq_; replace BK294 := Aside0.mk hq_; clear hq_; have hq_ := blk_drewN BK295.out nd; rw [← hwn_] at hq_; replace BK295 := Aside0.mk hq_; clear hq_; have hq_ := blk_drewN BK322.out nd; rw [← hwn_] at hq_; replace BK322 := Aside0.mk hq_; clear hq_; have hq_ := blk_drewN BK330.out nd; rw [← hwn_] at hq_; replace BK330 := Aside0.mk hq_; clear hq_; have hq_ := pw_below_drewN HB.out nd; rw [← hwn_] at hq_; replace HB := Aside0.mk hq_; clear hq_; clear hwn_)
              replace HO_10 := Aside0.mk (Kd.S_drew HO_10.out)
              replace HO_13 := Aside0.mk (Kd.S_drew HO_13.out)
              replace HO_323001 := Aside0.mk (Kd.R_drew HO_323001.out)
              replace HO_323002 := Aside0.mk (Kd.R_drew HO_323002.out)
              replace HO_331001 := Aside0.mk (Kd.R_drew HO_331001.out)
              replace HO_331002 := Aside0.mk (Kd.R_drew HO_331002.out)
              replace BK294 := Aside0.mk (blk_drew BK294.out)
              replace BK295 := Aside0.mk (blk_drew BK295.out)
              replace BK322 := Aside0.mk (blk_drew BK322.out)
              replace BK330 := Aside0.mk (blk_drew BK330.out)
              replace HB := Aside0.mk (below_drew1 HB.out)
              refine start_ (n := 8) (S := fun w' => w'.cell? ⟨gb294, 0, none⟩ = some (.int .i64 a0_0) ∧ w'.cell? ⟨gb294, 1, none⟩ = some (.slice A0_1 l0_1.length c0_1) ∧ w'.cell? ⟨gb294, 2, none⟩ = some (.slice A0_2 l0_2.length c0_2) ∧ w'.cell? ⟨gb295, 0, none⟩ = some (.int .i64 a1_0) ∧ w'.cell? ⟨gb295, 1, none⟩ = some (.slice A1_1 l1_1.length c1_1) ∧ w'.cell? ⟨gb295, 2, none⟩ = some (.slice A1_2 l1_2.length c1_2)) (ds := []) (bm 8 0) (by kernel_rfl) rfl (bm0 _) ⟨bc0 BK294, bc1 BK294, bc2 BK294, bc0 BK295, bc1 BK295, bc2 BK295⟩ (fun hHeld => ?_); refine with_tabW laws_FnExactNextPairs.tab31 laws_FnExactNextPairs.bits31 (fun HT_ HW_ => ?_)
              first | (generalize wn_.drew = w104 at HO_10 HO_13 HO_323001 HO_323002 HO_331001 HO_331002 BK294 BK295 BK322 BK330 HB hHeld ⊢) | (generalize w103.drew = w104 at HO_10 HO_13 HO_323001 HO_323002 HO_331001 HO_331002 BK294 BK295 BK322 BK330 HB hHeld ⊢)
              refine pU 4 (some 87) (bm 8 16) HT_ rfl rfl ?_
              refine pU 5 (some 88) (bm 8 48) HT_ rfl rfl ?_
              refine tU 0 (some 83) (bm 8 49) HT_ HW_ rfl rfl hHeld ?_
              refine tU 2 (some 85) (bm 8 53) HT_ HW_ rfl rfl hHeld ?_
              refine one_ (i := 1) (N := some 84) (bm 8 55) rfl rfl (one_of HT_.out (by kernel_rfl)) (by decide) (fun K hK => ?_)
              refine goes_ Try.func8 (by kernel_rfl) rfl #[.agg #[.int .i64 a0_0, .slice A0_1 l0_1.length c0_1, .slice A0_2 l0_2.length c0_2]] (by rfl) rfl rfl zG ?_
              with_reducible refine (laws_toMachine.calls kj36 a0_0 _ _ l0_1 _ _ l0_2 t361 t362 t365 _ ?side1 ?side2 ?side3 ?side4 A95.out).mono ?_
              (case side1 => exact cS HR0_1 HB)
              (case side2 => exact HC0_1.out)
              (case side3 => exact cS HR0_2 HB)
              (case side4 => exact HC0_2.out)
              rintro e w105 ⟨v363, v366, rfl, ho0, ho1, hb⟩
              refine ⟨_, rfl, ?_⟩
              replace HO_10 := Aside0.mk (Kd.S_below (zS HO_10) hb)
              replace HO_13 := Aside0.mk (Kd.S_below (zS HO_13) hb)
              have HO364 := Aside0.mk (Kd.R_lower (Kd.R_new' (Kd.R_new' ho0 (Kd.R_lt (zR HO_323001))) (Kd.R_lt (zR HO_331001))) (below_size (zB HB)))
              replace HO_323001 := Aside0.mk (Kd.R_elder' (zR HO_323001) (Kd.R_base ho0) hb)
              replace HO_331001 := Aside0.mk (Kd.R_elder' (zR HO_331001) (Kd.R_base ho0) hb)
              have HO367 := Aside0.mk (Kd.R_lower (Kd.R_new' (Kd.R_new' ho1 (Kd.R_lt (zR HO_323002))) (Kd.R_lt (zR HO_331002))) (below_size (zB HB)))
              replace HO_323002 := Aside0.mk (Kd.R_elder' (zR HO_323002) (Kd.R_base ho1) hb)
              replace HO_331002 := Aside0.mk (Kd.R_elder' (zR HO_331002) (Kd.R_base ho1) hb)
              replace BK294 := kB BK294 hb
              replace BK295 := kB BK295 hb
              replace BK322 := kB BK322 hb
              replace BK330 := kB BK330 hb
              replace HB := bS HB hb
              (try clear hb)
              (try clear hb2)
              (try clear hk)
              (try clear hi)
              (try clear ho0)
              (try clear ho1)
              refine hK.out _ _ ⟨bc0 BK294, bc1 BK294, bc2 BK294, bc0 BK295, bc1 BK295, bc2 BK295⟩ (fun hHeld => ?_)
              clear hK K
              refine norm_ (a' := ?_) ?_ ?_
              rotate_left
              ·show Act.put _ (some 84) _ = _
               simp only [Act.put, List.setIfInBounds_toArray, List.set_cons_zero, List.set_cons_succ, i64_w, i32_w]
               rfl
              refine one_ (i := 3) (N := some 86) (bm 8 63) rfl rfl (one_of HT_.out (by kernel_rfl)) (by decide) (fun K hK => ?_)
              refine goes_ Try.func8 (by kernel_rfl) rfl #[.agg #[.int .i64 a1_0, .slice A1_1 l1_1.length c1_1, .slice A1_2 l1_2.length c1_2]] (by rfl) rfl rfl zG ?_
              with_reducible refine (laws_toMachine.calls kj36 a1_0 _ _ l1_1 _ _ l1_2 t368 t369 t372 _ ?side1 ?side2 ?side3 ?side4 A96.out).mono ?_
              (case side1 => exact cS HR1_1 HB)
              (case side2 => exact HC1_1.out)
              (case side3 => exact cS HR1_2 HB)
              (case side4 => exact HC1_2.out)
              rintro e w106 ⟨v370, v373, rfl, ho0, ho1, hb⟩
              refine ⟨_, rfl, ?_⟩
              replace HO_10 := Aside0.mk (Kd.S_below (zS HO_10) hb)
              replace HO_13 := Aside0.mk (Kd.S_below (zS HO_13) hb)
              have HO371 := Aside0.mk (Kd.R_lower (Kd.R_new' (Kd.R_new' (Kd.R_new' ho0 (Kd.R_lt (zR HO_323001))) (Kd.R_lt (zR HO_331001))) (Kd.R_lt (zR HO364))) (below_size (zB HB)))
              replace HO_323001 := Aside0.mk (Kd.R_elder' (zR HO_323001) (Kd.R_base ho0) hb)
              replace HO_331001 := Aside0.mk (Kd.R_elder' (zR HO_331001) (Kd.R_base ho0) hb)
              replace HO364 := Aside0.mk (Kd.R_elder' (zR HO364) (Kd.R_base ho0) hb)
              have HO374 := Aside0.mk (Kd.R_lower (Kd.R_new' (Kd.R_new' (Kd.R_new' ho1 (Kd.R_lt (zR HO_323002))) (Kd.R_lt (zR HO_331002))) (Kd.R_lt (zR HO367))) (below_size (zB HB)))
              replace HO_323002 := Aside0.mk (Kd.R_elder' (zR HO_323002) (Kd.R_base ho1) hb)
              replace HO_331002 := Aside0.mk (Kd.R_elder' (zR HO_331002) (Kd.R_base ho1) hb)
              replace HO367 := Aside0.mk (Kd.R_elder' (zR HO367) (Kd.R_base ho1) hb)
              replace BK294 := kB BK294 hb
              replace BK295 := kB BK295 hb
              replace BK322 := kB BK322 hb
              replace BK330 := kB BK330 hb
              replace HB := bS HB hb
              (try clear hb)
              (try clear hb2)
              (try clear hk)
              (try clear hi)
              (try clear ho0)
              (try clear ho1)
              obtain ⟨Ao107, co107, eo107⟩ := Kd.R_slice HO364.out
              (first | subst eo107 | (injection eo107 with f1_ f2_ f3_; have f4_ := f1_.symm; have f5_ := f3_.symm; clear f1_ f2_ f3_; subst f4_; subst f5_))
              obtain ⟨Ao108, co108, eo108⟩ := Kd.R_slice HO367.out
              (first | subst eo108 | (injection eo108 with f1_ f2_ f3_; have f4_ := f1_.symm; have f5_ := f3_.symm; clear f1_ f2_ f3_; subst f4_; subst f5_))
              obtain ⟨Ao109, co109, eo109⟩ := Kd.R_slice HO371.out
              (first | subst eo109 | (injection eo109 with f1_ f2_ f3_; have f4_ := f1_.symm; have f5_ := f3_.symm; clear f1_ f2_ f3_; subst f4_; subst f5_))
              obtain ⟨Ao110, co110, eo110⟩ := Kd.R_slice HO374.out
              (first | subst eo110 | (injection eo110 with f1_ f2_ f3_; have f4_ := f1_.symm; have f5_ := f3_.symm; clear f1_ f2_ f3_; subst f4_; subst f5_))
              refine hK.out _ _ ⟨bc0 BK294, bc1 BK294, bc2 BK294, bc0 BK295, bc1 BK295, bc2 BK295⟩ (fun hHeld => ?_)
              clear hK K
              refine norm_ (a' := ?_) ?_ ?_
              rotate_left
              ·show Act.put _ (some 86) _ = _
               simp only [Act.put, List.setIfInBounds_toArray, List.set_cons_zero, List.set_cons_succ, i64_w, i32_w]
               rfl
              refine one_ (i := 6) (N := some 89) (bm 8 127) rfl rfl (one_of HT_.out (by kernel_rfl)) (by decide) (fun K hK => ?_)
              refine goes_ Try.func22 (by kernel_rfl) rfl #[.agg #[.int .i64 t361, .slice Ao107 t362.length co107, .slice Ao108 t365.length co108], .agg #[.int .i64 t368, .slice Ao109 t369.length co109, .slice Ao110 t372.length co110], .int .i64 a2, .int .i64 a3] (by rfl) rfl rfl zG ?_
              with_reducible refine (impl_NextPairs.calls kj36 t361 _ _ t362 _ _ t365 t368 _ _ t369 _ _ t372 a2 a3 t375 _ ?side1 ?side2 ?side3 ?side4 ?side5 ?side6 ?side7 ?side8 A97.out).mono ?_
              (case side1 => repeat (first | exact (Kd.R_reads' HO364.out).2.2 | (with_reducible refine Kd.C_alloc ?_ _) | (with_reducible refine Kd.C_drewN ?_ _) | (with_reducible refine Kd.C_drew ?_)))
              (case side2 => exact (Kd.R_reads' HO364.out).2.1)
              (case side3 => repeat (first | exact (Kd.R_reads' HO367.out).2.2 | (with_reducible refine Kd.C_alloc ?_ _) | (with_reducible refine Kd.C_drewN ?_ _) | (with_reducible refine Kd.C_drew ?_)))
              (case side4 => exact (Kd.R_reads' HO367.out).2.1)
              (case side5 => repeat (first | exact (Kd.R_reads' HO371.out).2.2 | (with_reducible refine Kd.C_alloc ?_ _) | (with_reducible refine Kd.C_drewN ?_ _) | (with_reducible refine Kd.C_drew ?_)))
              (case side6 => exact (Kd.R_reads' HO371.out).2.1)
              (case side7 => repeat (first | exact (Kd.R_reads' HO374.out).2.2 | (with_reducible refine Kd.C_alloc ?_ _) | (with_reducible refine Kd.C_drewN ?_ _) | (with_reducible refine Kd.C_drew ?_)))
              (case side8 => exact (Kd.R_reads' HO374.out).2.1)
              rintro e w111 ⟨v376, rfl, ho0, hb⟩
              refine ⟨_, rfl, ?_⟩
              replace HO_323001 := Aside0.mk (Kd.R_below (zR HO_323001) hb)
              replace HO_323002 := Aside0.mk (Kd.R_below (zR HO_323002) hb)
              replace HO_331001 := Aside0.mk (Kd.R_below (zR HO_331001) hb)
              replace HO_331002 := Aside0.mk (Kd.R_below (zR HO_331002) hb)
              replace HO364 := Aside0.mk (Kd.R_below (zR HO364) hb)
              replace HO367 := Aside0.mk (Kd.R_below (zR HO367) hb)
              replace HO371 := Aside0.mk (Kd.R_below (zR HO371) hb)
              replace HO374 := Aside0.mk (Kd.R_below (zR HO374) hb)
              have HO377 := Aside0.mk (Kd.S_lower (Kd.S_new' (Kd.S_new' ho0 (Kd.S_lt (zS HO_10))) (Kd.S_lt (zS HO_13))) (below_size (zB HB)))
              replace HO_10 := Aside0.mk (Kd.S_elder' (zS HO_10) (Kd.S_base ho0) hb)
              replace HO_13 := Aside0.mk (Kd.S_elder' (zS HO_13) (Kd.S_base ho0) hb)
              replace BK294 := kB BK294 hb
              replace BK295 := kB BK295 hb
              replace BK322 := kB BK322 hb
              replace BK330 := kB BK330 hb
              replace HB := bS HB hb
              (try clear hb)
              (try clear hb2)
              (try clear hk)
              (try clear hi)
              (try clear ho0)
              refine hK.out _ _ ⟨bc0 BK294, bc1 BK294, bc2 BK294, bc0 BK295, bc1 BK295, bc2 BK295⟩ (fun hHeld => ?_)
              clear hK K
              refine norm_ (a' := ?_) ?_ ?_
              rotate_left
              ·show Act.put _ (some 89) _ = _
               simp only [Act.put, List.setIfInBounds_toArray, List.set_cons_zero, List.set_cons_succ, i64_w, i32_w]
               rfl
              refine pU 7 (some 17) (bm 8 255) HT_ rfl rfl ?_
              refine done_ (done_of HT_.out (by kernel_rfl)) ?_
              try clear hHeld
              obtain ⟨Ao112, co112, eo112⟩ := Kd.S_slice HO377.out
              subst eo112
              try go_wp2_with (first | ((with_reducible refine gate_callee (f := 23) rfl ?_); refine goesL_ (some 92) rfl rfl Try.func23 (by kernel_rfl) rfl #[.slice Ao112 t375.length co112, .slice Ao73 t312.length co73] rfl zG ?_; (with_reducible refine (laws_eqIntSS.calls kj36 _ _ t375 _ _ t312 true _ ?side1 ?side2 ?side3 ?side4 A98.out).mono ?_); (case side1 => repeat (first | exact (Kd.S_reads' HO377.out).2.2 | (with_reducible refine Kd.C_alloc ?_ _) | (with_reducible refine Kd.C_drewN ?_ _) | (with_reducible refine Kd.C_drew ?_))); (case side2 => exact (Kd.S_reads' HO377.out).2.1); (case side3 => repeat (first | exact (Kd.S_reads' HO_10.out).2.2 | (with_reducible refine Kd.C_alloc ?_ _) | (with_reducible refine Kd.C_drewN ?_ _) | (with_reducible refine Kd.C_drew ?_))); (case side4 => exact (Kd.S_reads' HO_10.out).2.1); rintro e w' ⟨rfl, ⟨nd, rfl⟩⟩; refine ⟨_, rfl, ?_⟩) | ((with_reducible refine gate_callee (f := 25) rfl ?_); refine goesL_ (some 96) rfl rfl Try.func25 (by kernel_rfl) rfl #[.slice Ao72 t359.length co72, .int .i64 1] rfl (by (try simp only [List.map_toArray, List.map_cons, List.map_nil]); first | done | (rw [show t359.length = t331.length from (Kd.S_reads' HO_13.out).1.symm] <;> rfl) | rfl | (simp only [List.length_drop, List.length_take]; rfl)) ?_; (with_reducible refine (laws_heldIntSS.calls kj36 _ _ t359 1 t379 _ ?side1 ?side2 A100.out).mono ?_); (case side1 => repeat (first | exact (Kd.S_reads' HO_13.out).2.2 | (with_reducible refine Kd.C_alloc ?_ _) | (with_reducible refine Kd.C_drewN ?_ _) | (with_reducible refine Kd.C_drew ?_))); (case side2 => rw [show t359.length = t331.length from (Kd.S_reads' HO_13.out).1.symm]; exact (Kd.S_reads' HO_13.out).2.1); rintro e w' ⟨rfl, ⟨nd, rfl⟩⟩; refine ⟨_, rfl, ?_⟩))
              go_ret
              exact ⟨zE, zB HB⟩
             ·rw [if_neg c102] at H
              have c102b0 : (t379 == t358) = false := beq_eq_false_iff_ne.mpr c102
              have c102b1 : (t379 != t358) = true := bne_iff_ne.mpr c102
              exact absurd H (by simp [ht_])
           ·replace c99 := Bool.eq_false_iff.mpr c99
            subst c99
            have H1 : (some false) = some r := by rw [if_neg (show ¬ (false = true) by decide)] at H; exact H
            clear H
            have H := H1
            clear H1
            exact absurd H (by simp [ht_])
          ·rw [if_neg c94] at H
           have c94b0 : (t360 == t358) = false := beq_eq_false_iff_ne.mpr c94
           have c94b1 : (t360 != t358) = true := bne_iff_ne.mpr c94
           exact absurd H (by simp [ht_])
     ·replace c34 := Bool.eq_false_iff.mpr c34
      subst c34
      have H1 : (some false) = some r := by rw [if_neg (show ¬ (false = true) by decide)] at H; exact H
      clear H
      have H := H1
      clear H1
      exact absurd H (by simp [ht_])
    ·replace c31 := Bool.eq_false_iff.mpr c31
     subst c31
     have H1 : (some false) = some r := by rw [if_neg (show ¬ (false = true) by decide)] at H; exact H
     clear H
     have H := H1
     clear H1
     exact absurd H (by simp [ht_])
   ·replace c28 := Bool.eq_false_iff.mpr c28
    subst c28
    have H1 : (some false) = some r := by rw [if_neg (show ¬ (false = true) by decide)] at H; exact H
    clear H
    have H := H1
    clear H1
    exact absurd H (by simp [ht_])
/-- What is known of a value of type 74 that came in. -/
def W74 (x : S74) : Prop := (Lit.int .i64 x.f0).wf = true ∧ True ∧ (Lit.int .i64 x.f2).wf = true ∧ (Lit.int .i64 x.f3).wf = true

/-- The pure statement of laws_FnExactNextPairs. -/
def laws_FnExactNextPairs.Pure : Prop := ∀ (a0_0 : Int) (l0_1 : List Bool) (l0_2 : List (S74)) (a1_0 : Int) (l1_1 : List Bool) (l1_2 : List (S74)) (a2 : Int) (a3 : Int), (Lit.int .i64 a0_0).wf = true → l0_1.length ≤ 9223372036854775807 → (∀ x ∈ l0_1, True) → l0_2.length ≤ 9223372036854775807 → (∀ x ∈ l0_2, W74 x) → (Lit.int .i64 a1_0).wf = true → l1_1.length ≤ 9223372036854775807 → (∀ x ∈ l1_1, True) → l1_2.length ≤ 9223372036854775807 → (∀ x ∈ l1_2, W74 x) → (Lit.int .i64 a2).wf = true → (Lit.int .i64 a3).wf = true → ∃ k, laws_FnExactNextPairs.f k a0_0 l0_1 l0_2 a1_0 l1_1 l1_2 a2 a3 = some true

end Go.Proofs.Ytjlaogjikkckkaa.PFnExactNextPairs
