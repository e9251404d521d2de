-- WRITTEN by pp.py, this session's own wrapper around the print; not trusted: Lean checks it
import Derived.Test.YtmenijbpglknbaaPFnExactPairsOfx0
import Derived.Test.YtmenijbpglknbaaPFnExactPairsOfx1
import Derived.Test.YtmenijbpglknbaaPFnExactPairsOfx4
import Derived.Test.YtmenijbpglknbaaPFnExactPairsOfx5
import Derived.Test.YtmenijbpglknbaaPFnExactPairsOfx9
import Derived.Test.YtmenijbpglknbaaPFnExactPairsOfx10
namespace Go.Proofs.Ytmenijbpglknbaa.PFnExactPairsOf
open Go.RowKit Go.Proofs.Ytmenijbpglknbaa.Hw Go.Proofs.YtmenijbpglknbaaW.PrintWords Go.Proofs.YtmenijbpglknbaaW.PrintLast Go.Proofs.YtmenijbpglknbaaW.PrintMore
attribute [local go_sem] max2_int min2_int max_two min_two max_three min_three max_four min_four   -- for this text's walks alone
set_option linter.unusedVariables false
set_option linter.unusedSimpArgs false
set_option linter.unusedSectionVars false

/-! ### laws_FnExactPairsOf: function 3 -/
def laws_FnExactPairsOf.j0 : Nat → List (List Int) → List (List Int) → Bool → Int → List Bool → List (S69) → Int → List Bool → List (S69) → Option (Bool)
 | 0, _, _, _, _, _, _, _, _, _ => none
 | k + 1, x6, x9, x63, x358000, x358001, x358002, x359000, x359001, x359002 => if x63 = true then (some false) else ((laws_markIntSS.f k x9 1).bind fun bt421 => ((laws_heldIntSS.f k bt421.2 1).bind fun t423 => (if t423 < 0 then (some false) else (if t423 = bt421.1 then ((laws_toMachine.f k x358000 x358001 x358002).bind fun bt424 => ((laws_toMachine.f k x359000 x359001 x359002).bind fun bt431 => ((impl_PairsOf.f k bt424.1 bt424.2.1 bt424.2.2 bt431.1 bt431.2.1 bt431.2.2).bind fun t438 => ((laws_eqIntSS.f k t438 x6).bind fun t441 => (if t441 = true then ((laws_heldIntSS.f k bt421.2 1).bind fun t442 => (if t442 < 0 then (some false) else (if t442 = bt421.1 then (some true) else (some false)))) else (some false)))))) else (some false)))))
def laws_FnExactPairsOf.f (k : Nat) (a0_0 : Int) (l0_1 : List Bool) (l0_2 : List (S69)) (a1_0 : Int) (l1_1 : List Bool) (l1_2 : List (S69)) : Option (Bool) := (laws_szMachine.f a0_0 l0_1 l0_2 1048576).bind fun t359 => (if t359 < 0 then (some true) else ((laws_szMachine.f a1_0 l1_1 l1_2 t359).bind fun t360 => (if t360 < 0 then (some true) else ((laws_toMachine.f k a0_0 l0_1 l0_2).bind fun bt361 => ((laws_toMachine.f k a1_0 l1_1 l1_2).bind fun bt368 => ((spec_PairsOf.f k bt361.1 bt361.2.1 bt361.2.2 bt368.1 bt368.2.1 bt368.2.2).bind fun t375 => ((laws_toMachine.f k a0_0 l0_1 l0_2).bind fun bt378 => ((laws_toMachine.f k a1_0 l1_1 l1_2).bind fun bt386 => ((impl_PairsOf.f k bt378.1 bt378.2.1 bt378.2.2 bt386.1 bt386.2.1 bt386.2.2).bind fun t394 => ((laws_eqIntSS.f k t394 t375).bind fun t397 => (if t397 = true then ((laws_toMachine.f k a0_0 l0_1 l0_2).bind fun bt398 => ((laws_eqMachine.f k bt378.1 bt378.2.1 bt378.2.2 bt398.1 bt398.2.1 bt398.2.2).bind fun t405 => (if t405 = true then ((laws_toMachine.f k a1_0 l1_1 l1_2).bind fun bt406 => ((laws_eqMachine.f k bt386.1 bt386.2.1 bt386.2.2 bt406.1 bt406.2.1 bt406.2.2).bind fun t413 => (if t413 = true then ((laws_markMachine.f k bt378.1 bt378.2.1 bt378.2.2 1).bind fun bt414 => ((laws_markMachine.f k bt386.1 bt386.2.1 bt386.2.2 bt414.1).bind fun bt417 => (if bt417.1 < 0 then (laws_FnExactPairsOf.j0 k t375 t394 true a0_0 l0_1 l0_2 a1_0 l1_1 l1_2) else ((laws_eqIntSS.f k t394 t375).bind fun t420 => (laws_FnExactPairsOf.j0 k t375 t394 (!t420) a0_0 l0_1 l0_2 a1_0 l1_1 l1_2))))) else (some false)))) else (some false)))) else (some false))))))))))))
theorem laws_FnExactPairsOf.mono_l : ∀ k, (∀ y0 y1 y2 y3 y4 y5 y6 y7 y8, LeO (laws_FnExactPairsOf.j0 k y0 y1 y2 y3 y4 y5 y6 y7 y8) (laws_FnExactPairsOf.j0 (k + 1) y0 y1 y2 y3 y4 y5 y6 y7 y8))
 | 0 => fun _ _ _ _ _ _ _ _ _ r h => by simp [laws_FnExactPairsOf.j0] at h
 | k + 1 => by
  have ih0 := laws_FnExactPairsOf.mono_l k
  ·intro y0 y1 y2 y3 y4 y5 y6 y7 y8
   unfold laws_FnExactPairsOf.j0
   repeat' first
   | (with_reducible exact ih0 _ _ _ _ _ _ _ _ _)
   | (with_reducible exact impl_PairsOf.mono _ _ _ _ _ _ _)
   | (with_reducible exact laws_eqIntSS.mono _ _ _)
   | (with_reducible exact laws_eqMachine.mono _ _ _ _ _ _ _)
   | (with_reducible exact laws_heldIntSS.mono _ _ _)
   | (with_reducible exact laws_markIntSS.mono _ _ _)
   | (with_reducible exact laws_markMachine.mono _ _ _ _ _)
   | (with_reducible exact laws_toMachine.mono _ _ _ _)
   | (with_reducible exact spec_PairsOf.mono _ _ _ _ _ _ _)
   | (with_reducible exact LeO.refl _)
   | (with_reducible exact LeO.none _)
   | (with_reducible refine LeO.ite ?_ ?_)
   | (with_reducible refine LeO.bind ?_ (fun _ => ?_))
   | exact ih0 _ _ _ _ _ _ _ _ _
   | exact impl_PairsOf.mono _ _ _ _ _ _ _
   | exact laws_eqIntSS.mono _ _ _
   | exact laws_eqMachine.mono _ _ _ _ _ _ _
   | exact laws_heldIntSS.mono _ _ _
   | exact laws_markIntSS.mono _ _ _
   | exact laws_markMachine.mono _ _ _ _ _
   | exact laws_toMachine.mono _ _ _ _
   | exact spec_PairsOf.mono _ _ _ _ _ _ _
   | exact LeO.none _
   | refine LeO.ite ?_ ?_
   | refine LeO.bind ?_ (fun _ => ?_)
theorem laws_FnExactPairsOf.mono : ∀ a0 a1 a2 a3 a4 a5 k, LeO (laws_FnExactPairsOf.f k a0 a1 a2 a3 a4 a5) (laws_FnExactPairsOf.f (k + 1) a0 a1 a2 a3 a4 a5) := by
 intro a0 a1 a2 a3 a4 a5 k
 have ih0 := laws_FnExactPairsOf.mono_l k
 unfold laws_FnExactPairsOf.f
 repeat' first
   | (with_reducible exact ih0 _ _ _ _ _ _ _ _ _)
   | (with_reducible exact impl_PairsOf.mono _ _ _ _ _ _ _)
   | (with_reducible exact laws_eqIntSS.mono _ _ _)
   | (with_reducible exact laws_eqMachine.mono _ _ _ _ _ _ _)
   | (with_reducible exact laws_heldIntSS.mono _ _ _)
   | (with_reducible exact laws_markIntSS.mono _ _ _)
   | (with_reducible exact laws_markMachine.mono _ _ _ _ _)
   | (with_reducible exact laws_toMachine.mono _ _ _ _)
   | (with_reducible exact spec_PairsOf.mono _ _ _ _ _ _ _)
   | (with_reducible exact LeO.refl _)
   | (with_reducible exact LeO.none _)
   | (with_reducible refine LeO.ite ?_ ?_)
   | (with_reducible refine LeO.bind ?_ (fun _ => ?_))
   | exact ih0 _ _ _ _ _ _ _ _ _
   | exact impl_PairsOf.mono _ _ _ _ _ _ _
   | exact laws_eqIntSS.mono _ _ _
   | exact laws_eqMachine.mono _ _ _ _ _ _ _
   | exact laws_heldIntSS.mono _ _ _
   | exact laws_markIntSS.mono _ _ _
   | exact laws_markMachine.mono _ _ _ _ _
   | exact laws_toMachine.mono _ _ _ _
   | exact spec_PairsOf.mono _ _ _ _ _ _ _
   | exact LeO.none _
   | refine LeO.ite ?_ ?_
   | refine LeO.bind ?_ (fun _ => ?_)
set_option maxHeartbeats 8000000 in
set_option maxRecDepth 100000 in
theorem laws_FnExactPairsOf.calls (k : Nat) (a0_0 : Int) (A0_1 : Option Addr) (c0_1 : Nat) (l0_1 : List Bool) (A0_2 : Option Addr) (c0_2 : Nat) (l0_2 : List (S69)) (a1_0 : Int) (A1_1 : Option Addr) (c1_1 : Nat) (l1_1 : List Bool) (A1_2 : Option Addr) (c1_2 : Nat) (l1_2 : List (S69)) (r : Bool) (w : World) (hr0_1 : Kd.C Kd.bool w A0_1 l0_1.length l0_1) (hc0_1 : l0_1.length ≤ c0_1) (hr0_2 : Kd.C k69 w A0_2 l0_2.length l0_2) (hc0_2 : l0_2.length ≤ c0_2) (hr1_1 : Kd.C Kd.bool w A1_1 l1_1.length l1_1) (hc1_1 : l1_1.length ≤ c1_1) (hr1_2 : Kd.C k69 w A1_2 l1_2.length l1_2) (hc1_2 : l1_2.length ≤ c1_2) (ht_ : r = true) (h : laws_FnExactPairsOf.f k a0_0 l0_1 l0_2 a1_0 l1_1 l1_2 = some r) :
  Calls Try.prog 3 #[.agg #[.int .i64 a0_0, .slice A0_1 l0_1.length c0_1, .slice A0_2 l0_2.length c0_2], .agg #[.int .i64 a1_0, .slice A1_1 l1_1.length c1_1, .slice A1_2 l1_2.length c1_2]] w fun e w' => e = .returned (.bool r) ∧ Below w.heap.size w w' := by
 have hu25 := Try.underlying25
 have hu31 := Try.underlying31
 have HR0_1 := Aside0.mk hr0_1
 have HC0_1 := Aside0.mk hc0_1
 clear hr0_1 hc0_1
 have HR0_2 := Aside0.mk hr0_2
 have HC0_2 := Aside0.mk hc0_2
 clear hr0_2 hc0_2
 have HR1_1 := Aside0.mk hr1_1
 have HC1_1 := Aside0.mk hc1_1
 clear hr1_1 hc1_1
 have HR1_2 := Aside0.mk hr1_2
 have HC1_2 := Aside0.mk hc1_2
 clear hr1_2 hc1_2
 have HB := Aside0.mk (Below.refl w.heap.size w)
 have H : ((laws_szMachine.f a0_0 l0_1 l0_2 1048576).bind fun t359 => (if t359 < 0 then (some true) else ((laws_szMachine.f a1_0 l1_1 l1_2 t359).bind fun t360 => (if t360 < 0 then (some true) else ((laws_toMachine.f k a0_0 l0_1 l0_2).bind fun bt361 => ((laws_toMachine.f k a1_0 l1_1 l1_2).bind fun bt368 => ((spec_PairsOf.f k bt361.1 bt361.2.1 bt361.2.2 bt368.1 bt368.2.1 bt368.2.2).bind fun t375 => ((laws_toMachine.f k a0_0 l0_1 l0_2).bind fun bt378 => ((laws_toMachine.f k a1_0 l1_1 l1_2).bind fun bt386 => ((impl_PairsOf.f k bt378.1 bt378.2.1 bt378.2.2 bt386.1 bt386.2.1 bt386.2.2).bind fun t394 => ((laws_eqIntSS.f k t394 t375).bind fun t397 => (if t397 = true then ((laws_toMachine.f k a0_0 l0_1 l0_2).bind fun bt398 => ((laws_eqMachine.f k bt378.1 bt378.2.1 bt378.2.2 bt398.1 bt398.2.1 bt398.2.2).bind fun t405 => (if t405 = true then ((laws_toMachine.f k a1_0 l1_1 l1_2).bind fun bt406 => ((laws_eqMachine.f k bt386.1 bt386.2.1 bt386.2.2 bt406.1 bt406.2.1 bt406.2.2).bind fun t413 => (if t413 = true then ((laws_markMachine.f k bt378.1 bt378.2.1 bt378.2.2 1).bind fun bt414 => ((laws_markMachine.f k bt386.1 bt386.2.1 bt386.2.2 bt414.1).bind fun bt417 => (if bt417.1 < 0 then (laws_FnExactPairsOf.j0 k t375 t394 true a0_0 l0_1 l0_2 a1_0 l1_1 l1_2) else ((laws_eqIntSS.f k t394 t375).bind fun t420 => (laws_FnExactPairsOf.j0 k t375 t394 (!t420) a0_0 l0_1 l0_2 a1_0 l1_1 l1_2))))) else (some false)))) else (some false)))) else (some false))))))))))))) = some r := h
 clear h
 obtain ⟨t359, A3, H⟩ := bindS H
 by_cases c4 : t359 < 0
 ·rw [if_pos c4] at H
  have c4b0 : decide (t359 < 0) = true := decide_eq_true c4
  clear c4
  obtain rfl := Option.some.inj H
  go_enter Try.func3, Try.ntmps3
  go_wp2_with (first | ((with_reducible refine gate_dst (N := 2) rfl ?_); refine box_event ?hg (N := 2) ?hd (cs := #[.int .i64 a0_0, .slice A0_1 l0_1.length c0_1, .slice A0_2 l0_2.length c0_2]) (t := 25) ?hr ?_; (case hd => rfl); (case hg => rfl); (case hr => first | (go_simp; done) | (go_simp; rfl)); intro gb357 hg w5 hbox hb; have BK357 := Aside0.mk (hbox); have GW357 := gS HB hg; have GE357 := gS HB hg; replace HB := bS HB hb; clear hb hbox hg) | ((with_reducible refine gate_dst (N := 3) rfl ?_); refine box_event ?hg (N := 3) ?hd (cs := #[.int .i64 a1_0, .slice A1_1 l1_1.length c1_1, .slice A1_2 l1_2.length c1_2]) (t := 25) ?hr ?_; (case hd => rfl); (case hg => rfl); (case hr => first | (go_simp; done) | (go_simp; rfl)); intro gb358 hg w6 hbox hb; have BK358 := Aside0.mk (hbox); have GW358 := gS HB hg; have GE358 := gS HB hg; replace HB := bS HB hb; have NB357_358 := nL BK357 hg; have NB358_357 := nR BK357 hg; replace BK357 := kB BK357 hb; clear hb hbox hg; have hnb7 := NB357_358.out; have hnc7 := NB358_357.out; have hcz8_0 := bc0 BK357; have hcz8_1 := bc1 BK357; have hcz8_2 := bc2 BK357; have hfz8_0 := bf BK357 0; have hfz8_1 := bf BK357 1; have hfz8_2 := bf BK357 2) | ((with_reducible refine gate_callee (f := 9) rfl ?_); refine goesL_ (some 16) rfl rfl Try.func9 (by kernel_rfl) rfl #[.agg #[.int .i64 a0_0, .slice A0_1 l0_1.length c0_1, .slice A0_2 l0_2.length c0_2], .int .i64 1048576] rfl zG ?_; (with_reducible refine (laws_szMachine.calls a0_0 _ _ l0_1 _ _ l0_2 1048576 t359 _ ?side1 ?side2 ?side3 ?side4 A3.out).mono ?_); (case side1 => exact cS HR0_1 HB); (case side2 => exact HC0_1.out); (case side3 => exact cS HR0_2 HB); (case side4 => exact HC0_2.out); rintro e w9 ⟨rfl, hb⟩; refine ⟨_, rfl, ?_⟩; replace BK357 := kB BK357 hb; replace BK358 := kB BK358 hb; replace HB := bS HB hb; (try clear hb)))
  go_ret
  exact ⟨zE, zB HB⟩
 ·rw [if_neg c4] at H
  have c4b0 : decide (t359 < 0) = false := decide_eq_false c4
  clear c4
  obtain ⟨t360, A10, H⟩ := bindS H
  by_cases c11 : t360 < 0
  ·rw [if_pos c11] at H
   have c11b0 : decide (t360 < 0) = true := decide_eq_true c11
   clear c11
   obtain rfl := Option.some.inj H
   go_enter Try.func3, Try.ntmps3
   go_wp2_with (first | ((with_reducible refine gate_dst (N := 2) rfl ?_); refine box_event ?hg (N := 2) ?hd (cs := #[.int .i64 a0_0, .slice A0_1 l0_1.length c0_1, .slice A0_2 l0_2.length c0_2]) (t := 25) ?hr ?_; (case hd => rfl); (case hg => rfl); (case hr => first | (go_simp; done) | (go_simp; rfl)); intro gb357 hg w12 hbox hb; have BK357 := Aside0.mk (hbox); have GW357 := gS HB hg; have GE357 := gS HB hg; replace HB := bS HB hb; clear hb hbox hg) | ((with_reducible refine gate_dst (N := 3) rfl ?_); refine box_event ?hg (N := 3) ?hd (cs := #[.int .i64 a1_0, .slice A1_1 l1_1.length c1_1, .slice A1_2 l1_2.length c1_2]) (t := 25) ?hr ?_; (case hd => rfl); (case hg => rfl); (case hr => first | (go_simp; done) | (go_simp; rfl)); intro gb358 hg w13 hbox hb; have BK358 := Aside0.mk (hbox); have GW358 := gS HB hg; have GE358 := gS HB hg; replace HB := bS HB hb; have NB357_358 := nL BK357 hg; have NB358_357 := nR BK357 hg; replace BK357 := kB BK357 hb; clear hb hbox hg; have hnb14 := NB357_358.out; have hnc14 := NB358_357.out; have hcz15_0 := bc0 BK357; have hcz15_1 := bc1 BK357; have hcz15_2 := bc2 BK357; have hfz15_0 := bf BK357 0; have hfz15_1 := bf BK357 1; have hfz15_2 := bf BK357 2) | ((with_reducible refine gate_callee (f := 9) rfl ?_); refine goesL_ (some 16) rfl rfl Try.func9 (by kernel_rfl) rfl #[.agg #[.int .i64 a0_0, .slice A0_1 l0_1.length c0_1, .slice A0_2 l0_2.length c0_2], .int .i64 1048576] rfl zG ?_; (with_reducible refine (laws_szMachine.calls a0_0 _ _ l0_1 _ _ l0_2 1048576 t359 _ ?side1 ?side2 ?side3 ?side4 A3.out).mono ?_); (case side1 => exact cS HR0_1 HB); (case side2 => exact HC0_1.out); (case side3 => exact cS HR0_2 HB); (case side4 => exact HC0_2.out); rintro e w16 ⟨rfl, hb⟩; refine ⟨_, rfl, ?_⟩; replace BK357 := kB BK357 hb; replace BK358 := kB BK358 hb; replace HB := bS HB hb; (try clear hb); have hcz17_0 := bc0 BK358; have hcz17_1 := bc1 BK358; have hcz17_2 := bc2 BK358; have hfz17_0 := bf BK358 0; have hfz17_1 := bf BK358 1; have hfz17_2 := bf BK358 2) | ((with_reducible refine gate_callee (f := 9) rfl ?_); refine goesL_ (some 21) rfl rfl Try.func9 (by kernel_rfl) rfl #[.agg #[.int .i64 a1_0, .slice A1_1 l1_1.length c1_1, .slice A1_2 l1_2.length c1_2], .int .i64 t359] rfl zG ?_; (with_reducible refine (laws_szMachine.calls a1_0 _ _ l1_1 _ _ l1_2 t359 t360 _ ?side1 ?side2 ?side3 ?side4 A10.out).mono ?_); (case side1 => exact cS HR1_1 HB); (case side2 => exact HC1_1.out); (case side3 => exact cS HR1_2 HB); (case side4 => exact HC1_2.out); rintro e w18 ⟨rfl, hb⟩; refine ⟨_, rfl, ?_⟩; replace BK357 := kB BK357 hb; replace BK358 := kB BK358 hb; replace HB := bS HB hb; (try clear hb)))
   go_ret
   exact ⟨zE, zB HB⟩
  ·rw [if_neg c11] at H
   have c11b0 : decide (t360 < 0) = false := decide_eq_false c11
   clear c11
   replace H := Option.bind_eq_some_iff.mp H
   obtain ⟨⟨t361, t362, t365⟩, A190, H⟩ := H
   replace H : ((laws_toMachine.f k a1_0 l1_1 l1_2).bind fun bt368 => ((spec_PairsOf.f k t361 t362 t365 bt368.1 bt368.2.1 bt368.2.2).bind fun t375 => ((laws_toMachine.f k a0_0 l0_1 l0_2).bind fun bt378 => ((laws_toMachine.f k a1_0 l1_1 l1_2).bind fun bt386 => ((impl_PairsOf.f k bt378.1 bt378.2.1 bt378.2.2 bt386.1 bt386.2.1 bt386.2.2).bind fun t394 => ((laws_eqIntSS.f k t394 t375).bind fun t397 => (if t397 = true then ((laws_toMachine.f k a0_0 l0_1 l0_2).bind fun bt398 => ((laws_eqMachine.f k bt378.1 bt378.2.1 bt378.2.2 bt398.1 bt398.2.1 bt398.2.2).bind fun t405 => (if t405 = true then ((laws_toMachine.f k a1_0 l1_1 l1_2).bind fun bt406 => ((laws_eqMachine.f k bt386.1 bt386.2.1 bt386.2.2 bt406.1 bt406.2.1 bt406.2.2).bind fun t413 => (if t413 = true then ((laws_markMachine.f k bt378.1 bt378.2.1 bt378.2.2 1).bind fun bt414 => ((laws_markMachine.f k bt386.1 bt386.2.1 bt386.2.2 bt414.1).bind fun bt417 => (if bt417.1 < 0 then (laws_FnExactPairsOf.j0 k t375 t394 true a0_0 l0_1 l0_2 a1_0 l1_1 l1_2) else ((laws_eqIntSS.f k t394 t375).bind fun t420 => (laws_FnExactPairsOf.j0 k t375 t394 (!t420) a0_0 l0_1 l0_2 a1_0 l1_1 l1_2))))) else (some false)))) else (some false)))) else (some false)))))))) = some r := H
   have A19 := Aside0.mk A190
   clear A190
   replace H := Option.bind_eq_some_iff.mp H
   obtain ⟨⟨t368, t369, t372⟩, A200, H⟩ := H
   replace H : ((spec_PairsOf.f k t361 t362 t365 t368 t369 t372).bind fun t375 => ((laws_toMachine.f k a0_0 l0_1 l0_2).bind fun bt378 => ((laws_toMachine.f k a1_0 l1_1 l1_2).bind fun bt386 => ((impl_PairsOf.f k bt378.1 bt378.2.1 bt378.2.2 bt386.1 bt386.2.1 bt386.2.2).bind fun t394 => ((laws_eqIntSS.f k t394 t375).bind fun t397 => (if t397 = true then ((laws_toMachine.f k a0_0 l0_1 l0_2).bind fun bt398 => ((laws_eqMachine.f k bt378.1 bt378.2.1 bt378.2.2 bt398.1 bt398.2.1 bt398.2.2).bind fun t405 => (if t405 = true then ((laws_toMachine.f k a1_0 l1_1 l1_2).bind fun bt406 => ((laws_eqMachine.f k bt386.1 bt386.2.1 bt386.2.2 bt406.1 bt406.2.1 bt406.2.2).bind fun t413 => (if t413 = true then ((laws_markMachine.f k bt378.1 bt378.2.1 bt378.2.2 1).bind fun bt414 => ((laws_markMachine.f k bt386.1 bt386.2.1 bt386.2.2 bt414.1).bind fun bt417 => (if bt417.1 < 0 then (laws_FnExactPairsOf.j0 k t375 t394 true a0_0 l0_1 l0_2 a1_0 l1_1 l1_2) else ((laws_eqIntSS.f k t394 t375).bind fun t420 => (laws_FnExactPairsOf.j0 k t375 t394 (!t420) a0_0 l0_1 l0_2 a1_0 l1_1 l1_2))))) else (some false)))) else (some false)))) else (some false))))))) = some r := H
   have A20 := Aside0.mk A200
   clear A200
   obtain ⟨t375, A21, H⟩ := bindS H
   replace H := Option.bind_eq_some_iff.mp H
   obtain ⟨⟨t378, t379, t382⟩, A220, H⟩ := H
   replace H : ((laws_toMachine.f k a1_0 l1_1 l1_2).bind fun bt386 => ((impl_PairsOf.f k t378 t379 t382 bt386.1 bt386.2.1 bt386.2.2).bind fun t394 => ((laws_eqIntSS.f k t394 t375).bind fun t397 => (if t397 = true then ((laws_toMachine.f k a0_0 l0_1 l0_2).bind fun bt398 => ((laws_eqMachine.f k t378 t379 t382 bt398.1 bt398.2.1 bt398.2.2).bind fun t405 => (if t405 = true then ((laws_toMachine.f k a1_0 l1_1 l1_2).bind fun bt406 => ((laws_eqMachine.f k bt386.1 bt386.2.1 bt386.2.2 bt406.1 bt406.2.1 bt406.2.2).bind fun t413 => (if t413 = true then ((laws_markMachine.f k t378 t379 t382 1).bind fun bt414 => ((laws_markMachine.f k bt386.1 bt386.2.1 bt386.2.2 bt414.1).bind fun bt417 => (if bt417.1 < 0 then (laws_FnExactPairsOf.j0 k t375 t394 true a0_0 l0_1 l0_2 a1_0 l1_1 l1_2) else ((laws_eqIntSS.f k t394 t375).bind fun t420 => (laws_FnExactPairsOf.j0 k t375 t394 (!t420) a0_0 l0_1 l0_2 a1_0 l1_1 l1_2))))) else (some false)))) else (some false)))) else (some false))))) = some r := H
   have A22 := Aside0.mk A220
   clear A220
   replace H := Option.bind_eq_some_iff.mp H
   obtain ⟨⟨t386, t387, t390⟩, A230, H⟩ := H
   replace H : ((impl_PairsOf.f k t378 t379 t382 t386 t387 t390).bind fun t394 => ((laws_eqIntSS.f k t394 t375).bind fun t397 => (if t397 = true then ((laws_toMachine.f k a0_0 l0_1 l0_2).bind fun bt398 => ((laws_eqMachine.f k t378 t379 t382 bt398.1 bt398.2.1 bt398.2.2).bind fun t405 => (if t405 = true then ((laws_toMachine.f k a1_0 l1_1 l1_2).bind fun bt406 => ((laws_eqMachine.f k t386 t387 t390 bt406.1 bt406.2.1 bt406.2.2).bind fun t413 => (if t413 = true then ((laws_markMachine.f k t378 t379 t382 1).bind fun bt414 => ((laws_markMachine.f k t386 t387 t390 bt414.1).bind fun bt417 => (if bt417.1 < 0 then (laws_FnExactPairsOf.j0 k t375 t394 true a0_0 l0_1 l0_2 a1_0 l1_1 l1_2) else ((laws_eqIntSS.f k t394 t375).bind fun t420 => (laws_FnExactPairsOf.j0 k t375 t394 (!t420) a0_0 l0_1 l0_2 a1_0 l1_1 l1_2))))) else (some false)))) else (some false)))) else (some false)))) = some r := H
   have A23 := Aside0.mk A230
   clear A230
   obtain ⟨t394, A24, H⟩ := bindS H
   obtain ⟨t397, A25, H⟩ := bindS H
   by_cases c26 : t397 = true
   ·subst c26
    have H1 : ((laws_toMachine.f k a0_0 l0_1 l0_2).bind fun bt398 => ((laws_eqMachine.f k t378 t379 t382 bt398.1 bt398.2.1 bt398.2.2).bind fun t405 => (if t405 = true then ((laws_toMachine.f k a1_0 l1_1 l1_2).bind fun bt406 => ((laws_eqMachine.f k t386 t387 t390 bt406.1 bt406.2.1 bt406.2.2).bind fun t413 => (if t413 = true then ((laws_markMachine.f k t378 t379 t382 1).bind fun bt414 => ((laws_markMachine.f k t386 t387 t390 bt414.1).bind fun bt417 => (if bt417.1 < 0 then (laws_FnExactPairsOf.j0 k t375 t394 true a0_0 l0_1 l0_2 a1_0 l1_1 l1_2) else ((laws_eqIntSS.f k t394 t375).bind fun t420 => (laws_FnExactPairsOf.j0 k t375 t394 (!t420) a0_0 l0_1 l0_2 a1_0 l1_1 l1_2))))) else (some false)))) else (some false)))) = some r := by rw [if_pos rfl] at H; exact H
    clear H
    have H := H1
    clear H1
    replace H := Option.bind_eq_some_iff.mp H
    obtain ⟨⟨t398, t399, t402⟩, A270, H⟩ := H
    replace H : ((laws_eqMachine.f k t378 t379 t382 t398 t399 t402).bind fun t405 => (if t405 = true then ((laws_toMachine.f k a1_0 l1_1 l1_2).bind fun bt406 => ((laws_eqMachine.f k t386 t387 t390 bt406.1 bt406.2.1 bt406.2.2).bind fun t413 => (if t413 = true then ((laws_markMachine.f k t378 t379 t382 1).bind fun bt414 => ((laws_markMachine.f k t386 t387 t390 bt414.1).bind fun bt417 => (if bt417.1 < 0 then (laws_FnExactPairsOf.j0 k t375 t394 true a0_0 l0_1 l0_2 a1_0 l1_1 l1_2) else ((laws_eqIntSS.f k t394 t375).bind fun t420 => (laws_FnExactPairsOf.j0 k t375 t394 (!t420) a0_0 l0_1 l0_2 a1_0 l1_1 l1_2))))) else (some false)))) else (some false))) = some r := H
    have A27 := Aside0.mk A270
    clear A270
    obtain ⟨t405, A28, H⟩ := bindS H
    by_cases c29 : t405 = true
    ·subst c29
     have H1 : ((laws_toMachine.f k a1_0 l1_1 l1_2).bind fun bt406 => ((laws_eqMachine.f k t386 t387 t390 bt406.1 bt406.2.1 bt406.2.2).bind fun t413 => (if t413 = true then ((laws_markMachine.f k t378 t379 t382 1).bind fun bt414 => ((laws_markMachine.f k t386 t387 t390 bt414.1).bind fun bt417 => (if bt417.1 < 0 then (laws_FnExactPairsOf.j0 k t375 t394 true a0_0 l0_1 l0_2 a1_0 l1_1 l1_2) else ((laws_eqIntSS.f k t394 t375).bind fun t420 => (laws_FnExactPairsOf.j0 k t375 t394 (!t420) a0_0 l0_1 l0_2 a1_0 l1_1 l1_2))))) else (some false)))) = some r := by rw [if_pos rfl] at H; exact H
     clear H
     have H := H1
     clear H1
     replace H := Option.bind_eq_some_iff.mp H
     obtain ⟨⟨t406, t407, t410⟩, A300, H⟩ := H
     replace H : ((laws_eqMachine.f k t386 t387 t390 t406 t407 t410).bind fun t413 => (if t413 = true then ((laws_markMachine.f k t378 t379 t382 1).bind fun bt414 => ((laws_markMachine.f k t386 t387 t390 bt414.1).bind fun bt417 => (if bt417.1 < 0 then (laws_FnExactPairsOf.j0 k t375 t394 true a0_0 l0_1 l0_2 a1_0 l1_1 l1_2) else ((laws_eqIntSS.f k t394 t375).bind fun t420 => (laws_FnExactPairsOf.j0 k t375 t394 (!t420) a0_0 l0_1 l0_2 a1_0 l1_1 l1_2))))) else (some false))) = some r := H
     have A30 := Aside0.mk A300
     clear A300
     obtain ⟨t413, A31, H⟩ := bindS H
     by_cases c32 : t413 = true
     ·subst c32
      have H1 : ((laws_markMachine.f k t378 t379 t382 1).bind fun bt414 => ((laws_markMachine.f k t386 t387 t390 bt414.1).bind fun bt417 => (if bt417.1 < 0 then (laws_FnExactPairsOf.j0 k t375 t394 true a0_0 l0_1 l0_2 a1_0 l1_1 l1_2) else ((laws_eqIntSS.f k t394 t375).bind fun t420 => (laws_FnExactPairsOf.j0 k t375 t394 (!t420) a0_0 l0_1 l0_2 a1_0 l1_1 l1_2))))) = some r := by rw [if_pos rfl] at H; exact H
      clear H
      have H := H1
      clear H1
      replace H := Option.bind_eq_some_iff.mp H
      obtain ⟨⟨t414, t415, t416⟩, A330, H⟩ := H
      replace H : ((laws_markMachine.f k t386 t387 t390 t414).bind fun bt417 => (if bt417.1 < 0 then (laws_FnExactPairsOf.j0 k t375 t394 true a0_0 l0_1 l0_2 a1_0 l1_1 l1_2) else ((laws_eqIntSS.f k t394 t375).bind fun t420 => (laws_FnExactPairsOf.j0 k t375 t394 (!t420) a0_0 l0_1 l0_2 a1_0 l1_1 l1_2)))) = some r := H
      have A33 := Aside0.mk A330
      clear A330
      replace H := Option.bind_eq_some_iff.mp H
      obtain ⟨⟨t417, t418, t419⟩, A340, H⟩ := H
      replace H : (if t417 < 0 then (laws_FnExactPairsOf.j0 k t375 t394 true a0_0 l0_1 l0_2 a1_0 l1_1 l1_2) else ((laws_eqIntSS.f k t394 t375).bind fun t420 => (laws_FnExactPairsOf.j0 k t375 t394 (!t420) a0_0 l0_1 l0_2 a1_0 l1_1 l1_2))) = some r := H
      have A34 := Aside0.mk A340
      clear A340
      have HC35 := Aside0.mk H
      clear H
      go_enter Try.func3, Try.ntmps3
      try go_wp2_with (first | ((with_reducible refine gate_dst (N := 2) rfl ?_); refine box_event ?hg (N := 2) ?hd (cs := #[.int .i64 a0_0, .slice A0_1 l0_1.length c0_1, .slice A0_2 l0_2.length c0_2]) (t := 25) ?hr ?_; (case hd => rfl); (case hg => rfl); (case hr => first | (go_simp; done) | (go_simp; rfl)); intro gb357 hg w36 hbox hb; have BK357 := Aside0.mk (hbox); have GW357 := gS HB hg; have GE357 := gS HB hg; replace HB := bS HB hb; clear hb hbox hg) | ((with_reducible refine gate_dst (N := 3) rfl ?_); refine box_event ?hg (N := 3) ?hd (cs := #[.int .i64 a1_0, .slice A1_1 l1_1.length c1_1, .slice A1_2 l1_2.length c1_2]) (t := 25) ?hr ?_; (case hd => rfl); (case hg => rfl); (case hr => first | (go_simp; done) | (go_simp; rfl)); intro gb358 hg w37 hbox hb; have BK358 := Aside0.mk (hbox); have GW358 := gS HB hg; have GE358 := gS HB hg; replace HB := bS HB hb; have NB357_358 := nL BK357 hg; have NB358_357 := nR BK357 hg; replace BK357 := kB BK357 hb; clear hb hbox hg; have hnb38 := NB357_358.out; have hnc38 := NB358_357.out; have hcz39_0 := bc0 BK357; have hcz39_1 := bc1 BK357; have hcz39_2 := bc2 BK357; have hfz39_0 := bf BK357 0; have hfz39_1 := bf BK357 1; have hfz39_2 := bf BK357 2) | ((with_reducible refine gate_callee (f := 9) rfl ?_); refine goesL_ (some 16) rfl rfl Try.func9 (by kernel_rfl) rfl #[.agg #[.int .i64 a0_0, .slice A0_1 l0_1.length c0_1, .slice A0_2 l0_2.length c0_2], .int .i64 1048576] rfl zG ?_; (with_reducible refine (laws_szMachine.calls a0_0 _ _ l0_1 _ _ l0_2 1048576 t359 _ ?side1 ?side2 ?side3 ?side4 A3.out).mono ?_); (case side1 => exact cS HR0_1 HB); (case side2 => exact HC0_1.out); (case side3 => exact cS HR0_2 HB); (case side4 => exact HC0_2.out); rintro e w40 ⟨rfl, hb⟩; refine ⟨_, rfl, ?_⟩; replace BK357 := kB BK357 hb; replace BK358 := kB BK358 hb; replace HB := bS HB hb; (try clear hb); have hcz41_0 := bc0 BK358; have hcz41_1 := bc1 BK358; have hcz41_2 := bc2 BK358; have hfz41_0 := bf BK358 0; have hfz41_1 := bf BK358 1; have hfz41_2 := bf BK358 2) | ((with_reducible refine gate_callee (f := 9) rfl ?_); refine goesL_ (some 21) rfl rfl Try.func9 (by kernel_rfl) rfl #[.agg #[.int .i64 a1_0, .slice A1_1 l1_1.length c1_1, .slice A1_2 l1_2.length c1_2], .int .i64 t359] rfl zG ?_; (with_reducible refine (laws_szMachine.calls a1_0 _ _ l1_1 _ _ l1_2 t359 t360 _ ?side1 ?side2 ?side3 ?side4 A10.out).mono ?_); (case side1 => exact cS HR1_1 HB); (case side2 => exact HC1_1.out); (case side3 => exact cS HR1_2 HB); (case side4 => exact HC1_2.out); rintro e w42 ⟨rfl, hb⟩; refine ⟨_, rfl, ?_⟩; replace BK357 := kB BK357 hb; replace BK358 := kB BK358 hb; replace HB := bS HB hb; (try clear hb)))
      replace BK357 := Aside0.mk (blk_drew BK357.out)
      replace BK358 := Aside0.mk (blk_drew BK358.out)
      replace HB := Aside0.mk (below_drew1 HB.out)
      refine start_ (n := 6) (S := fun w' => w'.cell? ⟨gb357, 0, none⟩ = some (.int .i64 a0_0) ∧ w'.cell? ⟨gb357, 1, none⟩ = some (.slice A0_1 l0_1.length c0_1) ∧ w'.cell? ⟨gb357, 2, none⟩ = some (.slice A0_2 l0_2.length c0_2) ∧ w'.cell? ⟨gb358, 0, none⟩ = some (.int .i64 a1_0) ∧ w'.cell? ⟨gb358, 1, none⟩ = some (.slice A1_1 l1_1.length c1_1) ∧ w'.cell? ⟨gb358, 2, none⟩ = some (.slice A1_2 l1_2.length c1_2)) (ds := []) (bm 6 0) (by kernel_rfl) rfl (bm0 _) ⟨bc0 BK357, bc1 BK357, bc2 BK357, bc0 BK358, bc1 BK358, bc2 BK358⟩ (fun hHeld => ?_)
      generalize w42.drew = w43 at BK357 BK358 HB hHeld ⊢
      refine take_ (i := 0) (N := some 24) (v := ?_) (a' := ?_) (bm 6 1) rfl rfl (by kernel_rfl) (fun _ _ _ h => h) (Or.inl ⟨by rfl, ?_⟩) hHeld ?_ ?_
      rotate_left
      ·rintro w' ⟨s0, s1, s2, s3, s4, s5⟩
       go_simp
       with_reducible rfl
      rotate_left
      ·simp only [Act.put, List.setIfInBounds_toArray, List.set_cons_zero, List.set_cons_succ, i64_w, i32_w]
       rfl
      refine take_ (i := 2) (N := some 26) (v := ?_) (a' := ?_) (bm 6 5) rfl rfl (by kernel_rfl) (fun _ _ _ h => h) (Or.inl ⟨by rfl, ?_⟩) hHeld ?_ ?_
      rotate_left
      ·rintro w' ⟨s0, s1, s2, s3, s4, s5⟩
       go_simp
       with_reducible rfl
      rotate_left
      ·simp only [Act.put, List.setIfInBounds_toArray, List.set_cons_zero, List.set_cons_succ, i64_w, i32_w]
       rfl
      refine one_ (i := 1) (N := some 25) (bm 6 7) rfl rfl (by kernel_rfl) (by decide) (fun K hK => ?_)
      refine goes_ Try.func11 (by kernel_rfl) rfl #[.agg #[.int .i64 a0_0, .slice A0_1 l0_1.length c0_1, .slice A0_2 l0_2.length c0_2]] (by rfl) rfl rfl zG ?_
      with_reducible refine (laws_toMachine.calls k a0_0 _ _ l0_1 _ _ l0_2 t361 t362 t365 _ ?side1 ?side2 ?side3 ?side4 A19.out).mono ?_
      (case side1 => exact cS HR0_1 HB)
      (case side2 => exact HC0_1.out)
      (case side3 => exact cS HR0_2 HB)
      (case side4 => exact HC0_2.out)
      rintro e w44 ⟨v363, v366, rfl, ho0, ho1, hb⟩
      refine ⟨_, rfl, ?_⟩
      have HO364 := Aside0.mk (Kd.R_lower ho0 (below_size (zB HB)))
      have HO367 := Aside0.mk (Kd.R_lower ho1 (below_size (zB HB)))
      replace BK357 := kB BK357 hb
      replace BK358 := kB BK358 hb
      replace HB := bS HB hb
      (try clear hb)
      (try clear hb2)
      (try clear hk)
      (try clear hi)
      (try clear ho0)
      (try clear ho1)
      refine hK.out _ _ ⟨bc0 BK357, bc1 BK357, bc2 BK357, bc0 BK358, bc1 BK358, bc2 BK358⟩ (fun hHeld => ?_)
      clear hK K
      refine norm_ (a' := ?_) ?_ ?_
      rotate_left
      ·show Act.put _ (some 25) _ = _
       simp only [Act.put, List.setIfInBounds_toArray, List.set_cons_zero, List.set_cons_succ, i64_w, i32_w]
       rfl
      refine one_ (i := 3) (N := some 27) (bm 6 15) rfl rfl (by kernel_rfl) (by decide) (fun K hK => ?_)
      refine goes_ Try.func11 (by kernel_rfl) rfl #[.agg #[.int .i64 a1_0, .slice A1_1 l1_1.length c1_1, .slice A1_2 l1_2.length c1_2]] (by rfl) rfl rfl zG ?_
      with_reducible refine (laws_toMachine.calls k a1_0 _ _ l1_1 _ _ l1_2 t368 t369 t372 _ ?side1 ?side2 ?side3 ?side4 A20.out).mono ?_
      (case side1 => exact cS HR1_1 HB)
      (case side2 => exact HC1_1.out)
      (case side3 => exact cS HR1_2 HB)
      (case side4 => exact HC1_2.out)
      rintro e w45 ⟨v370, v373, rfl, ho0, ho1, hb⟩
      refine ⟨_, rfl, ?_⟩
      have HO371 := Aside0.mk (Kd.R_lower (Kd.R_new' ho0 (Kd.R_lt (zR HO364))) (below_size (zB HB)))
      replace HO364 := Aside0.mk (Kd.R_elder' (zR HO364) (Kd.R_base ho0) hb)
      have HO374 := Aside0.mk (Kd.R_lower (Kd.R_new' ho1 (Kd.R_lt (zR HO367))) (below_size (zB HB)))
      replace HO367 := Aside0.mk (Kd.R_elder' (zR HO367) (Kd.R_base ho1) hb)
      replace BK357 := kB BK357 hb
      replace BK358 := kB BK358 hb
      replace HB := bS HB hb
      (try clear hb)
      (try clear hb2)
      (try clear hk)
      (try clear hi)
      (try clear ho0)
      (try clear ho1)
      obtain ⟨Ao46, co46, eo46⟩ := Kd.R_slice HO364.out
      (first | subst eo46 | (injection eo46 with f1_ f2_ f3_; have f4_ := f1_.symm; have f5_ := f3_.symm; clear f1_ f2_ f3_; subst f4_; subst f5_))
      obtain ⟨Ao47, co47, eo47⟩ := Kd.R_slice HO367.out
      (first | subst eo47 | (injection eo47 with f1_ f2_ f3_; have f4_ := f1_.symm; have f5_ := f3_.symm; clear f1_ f2_ f3_; subst f4_; subst f5_))
      obtain ⟨Ao48, co48, eo48⟩ := Kd.R_slice HO371.out
      (first | subst eo48 | (injection eo48 with f1_ f2_ f3_; have f4_ := f1_.symm; have f5_ := f3_.symm; clear f1_ f2_ f3_; subst f4_; subst f5_))
      obtain ⟨Ao49, co49, eo49⟩ := Kd.R_slice HO374.out
      (first | subst eo49 | (injection eo49 with f1_ f2_ f3_; have f4_ := f1_.symm; have f5_ := f3_.symm; clear f1_ f2_ f3_; subst f4_; subst f5_))
      refine hK.out _ _ ⟨bc0 BK357, bc1 BK357, bc2 BK357, bc0 BK358, bc1 BK358, bc2 BK358⟩ (fun hHeld => ?_)
      clear hK K
      refine norm_ (a' := ?_) ?_ ?_
      rotate_left
      ·show Act.put _ (some 27) _ = _
       simp only [Act.put, List.setIfInBounds_toArray, List.set_cons_zero, List.set_cons_succ, i64_w, i32_w]
       rfl
      refine one_ (i := 4) (N := some 28) (bm 6 31) rfl rfl (by kernel_rfl) (by decide) (fun K hK => ?_)
      refine goes_ Try.func10 (by kernel_rfl) rfl #[.agg #[.int .i64 t361, .slice Ao46 t362.length co46, .slice Ao47 t365.length co47], .agg #[.int .i64 t368, .slice Ao48 t369.length co48, .slice Ao49 t372.length co49]] (by rfl) rfl rfl zG ?_
      with_reducible refine (spec_PairsOf.calls k t361 _ _ t362 _ _ t365 t368 _ _ t369 _ _ t372 t375 _ ?side1 ?side2 ?side3 ?side4 ?side5 ?side6 ?side7 ?side8 A21.out).mono ?_
      (case side1 => repeat (first | exact (Kd.R_reads' HO364.out).2.2 | (with_reducible refine Kd.C_alloc ?_ _) | (with_reducible refine Kd.C_drewN ?_ _) | (with_reducible refine Kd.C_drew ?_)))
      (case side2 => exact (Kd.R_reads' HO364.out).2.1)
      (case side3 => repeat (first | exact (Kd.R_reads' HO367.out).2.2 | (with_reducible refine Kd.C_alloc ?_ _) | (with_reducible refine Kd.C_drewN ?_ _) | (with_reducible refine Kd.C_drew ?_)))
      (case side4 => exact (Kd.R_reads' HO367.out).2.1)
      (case side5 => repeat (first | exact (Kd.R_reads' HO371.out).2.2 | (with_reducible refine Kd.C_alloc ?_ _) | (with_reducible refine Kd.C_drewN ?_ _) | (with_reducible refine Kd.C_drew ?_)))
      (case side6 => exact (Kd.R_reads' HO371.out).2.1)
      (case side7 => repeat (first | exact (Kd.R_reads' HO374.out).2.2 | (with_reducible refine Kd.C_alloc ?_ _) | (with_reducible refine Kd.C_drewN ?_ _) | (with_reducible refine Kd.C_drew ?_)))
      (case side8 => exact (Kd.R_reads' HO374.out).2.1)
      rintro e w50 ⟨v376, rfl, ho0, hb⟩
      refine ⟨_, rfl, ?_⟩
      have HO377 := Aside0.mk (Kd.N_lower (Kd.N_mono (ok' := fun k_ => some k_ ≠ (.slice Ao46 t362.length co46 : Value).ownBlock ∧ some k_ ≠ (.slice Ao47 t365.length co47 : Value).ownBlock ∧ some k_ ≠ (.slice Ao48 t369.length co48 : Value).ownBlock ∧ some k_ ≠ (.slice Ao49 t372.length co49 : Value).ownBlock ∧ k_ ≠ gb357 ∧ k_ ≠ gb358) ho0 (fun k_ hk_ => ⟨(Kd.fresh' (Kd.R_lt (zR HO364)) k_ hk_), (Kd.fresh' (Kd.R_lt (zR HO367)) k_ hk_), (Kd.fresh' (Kd.R_lt (zR HO371)) k_ hk_), (Kd.fresh' (Kd.R_lt (zR HO374)) k_ hk_), (Kd.freshB (g := gb357) (o := .cells #[.int .i64 a0_0, .slice A0_1 l0_1.length c0_1, .slice A0_2 l0_2.length c0_2] 25 (0, 0)) (zK BK357) k_ hk_), (Kd.freshB (g := gb358) (o := .cells #[.int .i64 a1_0, .slice A1_1 l1_1.length c1_1, .slice A1_2 l1_2.length c1_2] 25 (0, 0)) (zK BK358) k_ hk_)⟩)) (below_size (zB HB)))
      replace HO364 := Aside0.mk (Kd.R_below (zR HO364) hb)
      replace HO367 := Aside0.mk (Kd.R_below (zR HO367) hb)
      replace HO371 := Aside0.mk (Kd.R_below (zR HO371) hb)
      replace HO374 := Aside0.mk (Kd.R_below (zR HO374) hb)
      replace BK357 := kB BK357 hb
      replace BK358 := kB BK358 hb
      replace HB := bS HB hb
      (try clear hb)
      (try clear hb2)
      (try clear hk)
      (try clear hi)
      (try clear ho0)
      refine hK.out _ _ ⟨bc0 BK357, bc1 BK357, bc2 BK357, bc0 BK358, bc1 BK358, bc2 BK358⟩ (fun hHeld => ?_)
      clear hK K
      refine norm_ (a' := ?_) ?_ ?_
      rotate_left
      ·show Act.put _ (some 28) _ = _
       simp only [Act.put, List.setIfInBounds_toArray, List.set_cons_zero, List.set_cons_succ, i64_w, i32_w]
       rfl
      refine pure_ (i := 5) (N := some 6) (v := ?_) (a' := ?_) (bm 6 63) rfl rfl (by kernel_rfl) (fun _ _ _ h => h) (Or.inl ⟨by rfl, ?_⟩) ?_ ?_
      rotate_left
      ·intro w'
       go_simp
       with_reducible rfl
      rotate_left
      ·simp only [Act.put, List.setIfInBounds_toArray, List.set_cons_zero, List.set_cons_succ, i64_w, i32_w]
       rfl
      refine done_ (by kernel_rfl) ?_
      try clear hHeld
      have hcz51_0 := bc0 BK357
      have hcz51_1 := bc1 BK357
      have hcz51_2 := bc2 BK357
      have hfz51_0 := bf BK357 0
      have hfz51_1 := bf BK357 1
      have hfz51_2 := bf BK357 2
      try go_wp2_with (first | ((with_reducible refine gate_callee (f := 11) rfl ?_); refine goesL_ (some 30) rfl rfl Try.func11 (by kernel_rfl) rfl #[.agg #[.int .i64 a0_0, .slice A0_1 l0_1.length c0_1, .slice A0_2 l0_2.length c0_2]] rfl zG ?_; (with_reducible refine (laws_toMachine.calls k a0_0 _ _ l0_1 _ _ l0_2 t378 t379 t382 _ ?side1 ?side2 ?side3 ?side4 A22.out).mono ?_); (case side1 => exact cS HR0_1 HB); (case side2 => exact HC0_1.out); (case side3 => exact cS HR0_2 HB); (case side4 => exact HC0_2.out); rintro e w52 ⟨v380, v383, rfl, ho0, ho1, hb⟩; refine ⟨_, rfl, ?_⟩; replace HO377 := Aside0.mk (Kd.N_mono (Kd.N_told (Kd.N_told (Kd.N_old (by (with_reducible repeat (first | apply Kd.N_alloc | apply Kd.N_drewN | apply Kd.N_drew)); exact HO377.out) hb) (Kd.R_base ho0)) (Kd.R_base ho1)) (fun _ h_ => h_.1)); have HO381 := Aside0.mk (Kd.R_lower (Kd.R_new' (Kd.R_new' ho0 (Kd.R_lt (zR HO364))) (Kd.R_lt (zR HO371))) (below_size (zB HB))); replace HO364 := Aside0.mk (Kd.R_elder' (zR HO364) (Kd.R_base ho0) hb); replace HO371 := Aside0.mk (Kd.R_elder' (zR HO371) (Kd.R_base ho0) hb); have HO384 := Aside0.mk (Kd.R_lower (Kd.R_new' (Kd.R_new' ho1 (Kd.R_lt (zR HO367))) (Kd.R_lt (zR HO374))) (below_size (zB HB))); replace HO367 := Aside0.mk (Kd.R_elder' (zR HO367) (Kd.R_base ho1) hb); replace HO374 := Aside0.mk (Kd.R_elder' (zR HO374) (Kd.R_base ho1) hb); replace BK357 := kB BK357 hb; replace BK358 := kB BK358 hb; replace HB := bS HB hb; (try clear hb); (try clear ho0); (try clear ho1)) | ((with_reducible refine gate_dst (N := 7) rfl ?_); refine box_event ?hg (N := 7) ?hd (cs := #[.int .i64 0, .slice none 0 0, .slice none 0 0]) (t := 31) ?hr ?_; (case hd => rfl); (case hg => rfl); (case hr => first | (go_simp; done) | (go_simp; rfl)); intro gb385 hg w53 hbox hb; replace HO364 := Aside0.mk (Kd.R_below (zR HO364) hb); replace HO367 := Aside0.mk (Kd.R_below (zR HO367) hb); replace HO371 := Aside0.mk (Kd.R_below (zR HO371) hb); replace HO374 := Aside0.mk (Kd.R_below (zR HO374) hb); replace HO377 := Aside0.mk (Kd.N_below (Kd.N_elderB (by (with_reducible repeat (first | apply Kd.N_alloc | apply Kd.N_drewN | apply Kd.N_drew)); exact HO377.out) gb385 (Nat.le_of_eq hg.symm)) hb); replace HO381 := Aside0.mk (Kd.R_below (zR HO381) hb); replace HO384 := Aside0.mk (Kd.R_below (zR HO384) hb); have BK385 := Aside0.mk (hbox); have GW385 := gS HB hg; have GE385 := gS HB hg; replace HB := bS HB hb; have NB357_385 := nL BK357 hg; have NB385_357 := nR BK357 hg; replace BK357 := kB BK357 hb; have NB358_385 := nL BK358 hg; have NB385_358 := nR BK358 hg; replace BK358 := kB BK358 hb; clear hb hbox hg; have hnb54 := NB385_357.out; have hnc54 := NB357_385.out; have hnb55 := NB385_358.out; have hnc55 := NB358_385.out; have hcz56_0 := bc0 BK385; have hcz56_1 := bc1 BK385; have hcz56_2 := bc2 BK385; have hfz56_0 := bf BK385 0; have hfz56_1 := bf BK385 1; have hfz56_2 := bf BK385 2; obtain ⟨Ao57, co57, eo57⟩ := Kd.R_slice HO381.out; subst eo57; obtain ⟨Ao58, co58, eo58⟩ := Kd.R_slice HO384.out; subst eo58; have hcz59_0 := bc0 BK358; have hcz59_1 := bc1 BK358; have hcz59_2 := bc2 BK358; have hfz59_0 := bf BK358 0; have hfz59_1 := bf BK358 1; have hfz59_2 := bf BK358 2) | ((with_reducible refine gate_callee (f := 11) rfl ?_); refine goesL_ (some 32) rfl rfl Try.func11 (by kernel_rfl) rfl #[.agg #[.int .i64 a1_0, .slice A1_1 l1_1.length c1_1, .slice A1_2 l1_2.length c1_2]] rfl zG ?_; (with_reducible refine (laws_toMachine.calls k a1_0 _ _ l1_1 _ _ l1_2 t386 t387 t390 _ ?side1 ?side2 ?side3 ?side4 A23.out).mono ?_); (case side1 => exact Kd.C_below HR1_1.out (zB HB)); (case side2 => exact HC1_1.out); (case side3 => exact Kd.C_below HR1_2.out (zB HB)); (case side4 => exact HC1_2.out); rintro e w60 ⟨v388, v391, rfl, ho0, ho1, hb⟩; refine ⟨_, rfl, ?_⟩; replace HO377 := Aside0.mk (Kd.N_mono (Kd.N_told (Kd.N_told (Kd.N_old (by (with_reducible repeat (first | apply Kd.N_alloc | apply Kd.N_drewN | apply Kd.N_drew)); exact (Kd.N_mono (Kd.N_far (p := ⟨gb385, 2, none⟩) (Kd.N_far (p := ⟨gb385, 1, none⟩) (Kd.N_far (p := ⟨gb385, 0, none⟩) (Kd.N_mono HO377.out (fun k_ hk => (⟨hk, hk.2⟩ : _ ∧ k_ ≠ gb385))) (fun _ hk => hk.2) (.int .i64 t378)) (fun _ hk => hk.2) (.slice Ao57 t379.length co57)) (fun _ hk => hk.2) (.slice Ao58 t382.length co58)) (fun _ h_ => h_.1))) hb) (Kd.R_base ho0)) (Kd.R_base ho1)) (fun _ h_ => h_.1)); have HO389 := Aside0.mk (Kd.R_lower (Kd.R_new' (Kd.R_new' (Kd.R_new' ho0 (Kd.R_lt (by (with_reducible repeat (first | apply Kd.R_alloc | apply Kd.R_drewN | apply Kd.R_drew)); exact (Kd.R_mono (Kd.R_far (p := ⟨gb385, 2, none⟩) (Kd.R_far (p := ⟨gb385, 1, none⟩) (Kd.R_far (p := ⟨gb385, 0, none⟩) (Kd.R_types HO364.out BK385.out (by decide)) (fun _ hk => hk.2) (.int .i64 t378)) (fun _ hk => hk.2) (.slice Ao57 t379.length co57)) (fun _ hk => hk.2) (.slice Ao58 t382.length co58)) (fun _ h_ => h_.1))))) (Kd.R_lt (by (with_reducible repeat (first | apply Kd.R_alloc | apply Kd.R_drewN | apply Kd.R_drew)); exact (Kd.R_mono (Kd.R_far (p := ⟨gb385, 2, none⟩) (Kd.R_far (p := ⟨gb385, 1, none⟩) (Kd.R_far (p := ⟨gb385, 0, none⟩) (Kd.R_types HO371.out BK385.out (by decide)) (fun _ hk => hk.2) (.int .i64 t378)) (fun _ hk => hk.2) (.slice Ao57 t379.length co57)) (fun _ hk => hk.2) (.slice Ao58 t382.length co58)) (fun _ h_ => h_.1))))) (Kd.R_lt (by (with_reducible repeat (first | apply Kd.R_alloc | apply Kd.R_drewN | apply Kd.R_drew)); exact (Kd.R_mono (Kd.R_far (p := ⟨gb385, 2, none⟩) (Kd.R_far (p := ⟨gb385, 1, none⟩) (Kd.R_far (p := ⟨gb385, 0, none⟩) (Kd.R_types HO381.out BK385.out (by decide)) (fun _ hk => hk.2) (.int .i64 t378)) (fun _ hk => hk.2) (.slice Ao57 t379.length co57)) (fun _ hk => hk.2) (.slice Ao58 t382.length co58)) (fun _ h_ => h_.1))))) (below_size (zB HB))); replace HO364 := Aside0.mk (Kd.R_elder' (by (with_reducible repeat (first | apply Kd.R_alloc | apply Kd.R_drewN | apply Kd.R_drew)); exact (Kd.R_mono (Kd.R_far (p := ⟨gb385, 2, none⟩) (Kd.R_far (p := ⟨gb385, 1, none⟩) (Kd.R_far (p := ⟨gb385, 0, none⟩) (Kd.R_types HO364.out BK385.out (by decide)) (fun _ hk => hk.2) (.int .i64 t378)) (fun _ hk => hk.2) (.slice Ao57 t379.length co57)) (fun _ hk => hk.2) (.slice Ao58 t382.length co58)) (fun _ h_ => h_.1))) (Kd.R_base ho0) hb); replace HO371 := Aside0.mk (Kd.R_elder' (by (with_reducible repeat (first | apply Kd.R_alloc | apply Kd.R_drewN | apply Kd.R_drew)); exact (Kd.R_mono (Kd.R_far (p := ⟨gb385, 2, none⟩) (Kd.R_far (p := ⟨gb385, 1, none⟩) (Kd.R_far (p := ⟨gb385, 0, none⟩) (Kd.R_types HO371.out BK385.out (by decide)) (fun _ hk => hk.2) (.int .i64 t378)) (fun _ hk => hk.2) (.slice Ao57 t379.length co57)) (fun _ hk => hk.2) (.slice Ao58 t382.length co58)) (fun _ h_ => h_.1))) (Kd.R_base ho0) hb); replace HO381 := Aside0.mk (Kd.R_elder' (by (with_reducible repeat (first | apply Kd.R_alloc | apply Kd.R_drewN | apply Kd.R_drew)); exact (Kd.R_mono (Kd.R_far (p := ⟨gb385, 2, none⟩) (Kd.R_far (p := ⟨gb385, 1, none⟩) (Kd.R_far (p := ⟨gb385, 0, none⟩) (Kd.R_types HO381.out BK385.out (by decide)) (fun _ hk => hk.2) (.int .i64 t378)) (fun _ hk => hk.2) (.slice Ao57 t379.length co57)) (fun _ hk => hk.2) (.slice Ao58 t382.length co58)) (fun _ h_ => h_.1))) (Kd.R_base ho0) hb); have HO392 := Aside0.mk (Kd.R_lower (Kd.R_new' (Kd.R_new' (Kd.R_new' ho1 (Kd.R_lt (by (with_reducible repeat (first | apply Kd.R_alloc | apply Kd.R_drewN | apply Kd.R_drew)); exact (Kd.R_mono (Kd.R_far (p := ⟨gb385, 2, none⟩) (Kd.R_far (p := ⟨gb385, 1, none⟩) (Kd.R_far (p := ⟨gb385, 0, none⟩) (Kd.R_types HO367.out BK385.out (by decide)) (fun _ hk => hk.2) (.int .i64 t378)) (fun _ hk => hk.2) (.slice Ao57 t379.length co57)) (fun _ hk => hk.2) (.slice Ao58 t382.length co58)) (fun _ h_ => h_.1))))) (Kd.R_lt (by (with_reducible repeat (first | apply Kd.R_alloc | apply Kd.R_drewN | apply Kd.R_drew)); exact (Kd.R_mono (Kd.R_far (p := ⟨gb385, 2, none⟩) (Kd.R_far (p := ⟨gb385, 1, none⟩) (Kd.R_far (p := ⟨gb385, 0, none⟩) (Kd.R_types HO374.out BK385.out (by decide)) (fun _ hk => hk.2) (.int .i64 t378)) (fun _ hk => hk.2) (.slice Ao57 t379.length co57)) (fun _ hk => hk.2) (.slice Ao58 t382.length co58)) (fun _ h_ => h_.1))))) (Kd.R_lt (by (with_reducible repeat (first | apply Kd.R_alloc | apply Kd.R_drewN | apply Kd.R_drew)); exact (Kd.R_mono (Kd.R_far (p := ⟨gb385, 2, none⟩) (Kd.R_far (p := ⟨gb385, 1, none⟩) (Kd.R_far (p := ⟨gb385, 0, none⟩) (Kd.R_types HO384.out BK385.out (by decide)) (fun _ hk => hk.2) (.int .i64 t378)) (fun _ hk => hk.2) (.slice Ao57 t379.length co57)) (fun _ hk => hk.2) (.slice Ao58 t382.length co58)) (fun _ h_ => h_.1))))) (below_size (zB HB))); replace HO367 := Aside0.mk (Kd.R_elder' (by (with_reducible repeat (first | apply Kd.R_alloc | apply Kd.R_drewN | apply Kd.R_drew)); exact (Kd.R_mono (Kd.R_far (p := ⟨gb385, 2, none⟩) (Kd.R_far (p := ⟨gb385, 1, none⟩) (Kd.R_far (p := ⟨gb385, 0, none⟩) (Kd.R_types HO367.out BK385.out (by decide)) (fun _ hk => hk.2) (.int .i64 t378)) (fun _ hk => hk.2) (.slice Ao57 t379.length co57)) (fun _ hk => hk.2) (.slice Ao58 t382.length co58)) (fun _ h_ => h_.1))) (Kd.R_base ho1) hb); replace HO374 := Aside0.mk (Kd.R_elder' (by (with_reducible repeat (first | apply Kd.R_alloc | apply Kd.R_drewN | apply Kd.R_drew)); exact (Kd.R_mono (Kd.R_far (p := ⟨gb385, 2, none⟩) (Kd.R_far (p := ⟨gb385, 1, none⟩) (Kd.R_far (p := ⟨gb385, 0, none⟩) (Kd.R_types HO374.out BK385.out (by decide)) (fun _ hk => hk.2) (.int .i64 t378)) (fun _ hk => hk.2) (.slice Ao57 t379.length co57)) (fun _ hk => hk.2) (.slice Ao58 t382.length co58)) (fun _ h_ => h_.1))) (Kd.R_base ho1) hb); replace HO384 := Aside0.mk (Kd.R_elder' (by (with_reducible repeat (first | apply Kd.R_alloc | apply Kd.R_drewN | apply Kd.R_drew)); exact (Kd.R_mono (Kd.R_far (p := ⟨gb385, 2, none⟩) (Kd.R_far (p := ⟨gb385, 1, none⟩) (Kd.R_far (p := ⟨gb385, 0, none⟩) (Kd.R_types HO384.out BK385.out (by decide)) (fun _ hk => hk.2) (.int .i64 t378)) (fun _ hk => hk.2) (.slice Ao57 t379.length co57)) (fun _ hk => hk.2) (.slice Ao58 t382.length co58)) (fun _ h_ => h_.1))) (Kd.R_base ho1) hb); replace BK357 := Aside0.mk (blk_below (g := gb357) (o := .cells #[.int .i64 a0_0, .slice A0_1 l0_1.length c0_1, .slice A0_2 l0_2.length c0_2] 25 (0, 0)) (by (with_reducible repeat (first | refine blk_drewN ?_ _ | refine blk_drew ?_ | refine blk_alloc ?_ _)); refine blk_far ?_ NB357_385.out _; (with_reducible repeat (first | refine blk_drewN ?_ _ | refine blk_drew ?_ | refine blk_alloc ?_ _)); refine blk_far ?_ NB357_385.out _; (with_reducible repeat (first | refine blk_drewN ?_ _ | refine blk_drew ?_ | refine blk_alloc ?_ _)); refine blk_far ?_ NB357_385.out _; (with_reducible repeat (first | refine blk_drewN ?_ _ | refine blk_drew ?_ | refine blk_alloc ?_ _)); exact BK357.out) hb); replace BK358 := Aside0.mk (blk_below (g := gb358) (o := .cells #[.int .i64 a1_0, .slice A1_1 l1_1.length c1_1, .slice A1_2 l1_2.length c1_2] 25 (0, 0)) (by (with_reducible repeat (first | refine blk_drewN ?_ _ | refine blk_drew ?_ | refine blk_alloc ?_ _)); refine blk_far ?_ NB358_385.out _; (with_reducible repeat (first | refine blk_drewN ?_ _ | refine blk_drew ?_ | refine blk_alloc ?_ _)); refine blk_far ?_ NB358_385.out _; (with_reducible repeat (first | refine blk_drewN ?_ _ | refine blk_drew ?_ | refine blk_alloc ?_ _)); refine blk_far ?_ NB358_385.out _; (with_reducible repeat (first | refine blk_drewN ?_ _ | refine blk_drew ?_ | refine blk_alloc ?_ _)); exact BK358.out) hb); replace BK385 := Aside0.mk (blk_below (g := gb385) (o := .cells #[.int .i64 t378, .slice Ao57 t379.length co57, .slice Ao58 t382.length co58] 31 (0, 0)) (by (with_reducible repeat (first | refine blk_drewN ?_ _ | refine blk_drew ?_ | refine blk_alloc ?_ _)); refine blk_put (cs := #[.int .i64 t378, .slice Ao57 t379.length co57, .slice none 0 0]) ?_ 2 _ rfl; (with_reducible repeat (first | refine blk_drewN ?_ _ | refine blk_drew ?_ | refine blk_alloc ?_ _)); refine blk_put (cs := #[.int .i64 t378, .slice none 0 0, .slice none 0 0]) ?_ 1 _ rfl; (with_reducible repeat (first | refine blk_drewN ?_ _ | refine blk_drew ?_ | refine blk_alloc ?_ _)); refine blk_put (cs := #[.int .i64 0, .slice none 0 0, .slice none 0 0]) ?_ 0 _ rfl; (with_reducible repeat (first | refine blk_drewN ?_ _ | refine blk_drew ?_ | refine blk_alloc ?_ _)); exact BK385.out) hb); replace HB := bS HB hb; (try clear hb); (try clear ho0); (try clear ho1)) | ((with_reducible refine gate_dst (N := 8) rfl ?_); refine box_event ?hg (N := 8) ?hd (cs := #[.int .i64 0, .slice none 0 0, .slice none 0 0]) (t := 31) ?hr ?_; (case hd => rfl); (case hg => rfl); (case hr => first | (go_simp; done) | (go_simp; rfl)); intro gb393 hg w61 hbox hb; replace HO364 := Aside0.mk (Kd.R_below (zR HO364) hb); replace HO367 := Aside0.mk (Kd.R_below (zR HO367) hb); replace HO371 := Aside0.mk (Kd.R_below (zR HO371) hb); replace HO374 := Aside0.mk (Kd.R_below (zR HO374) hb); replace HO377 := Aside0.mk (Kd.N_below (Kd.N_elderB (by (with_reducible repeat (first | apply Kd.N_alloc | apply Kd.N_drewN | apply Kd.N_drew)); exact HO377.out) gb393 (Nat.le_of_eq hg.symm)) hb); replace HO381 := Aside0.mk (Kd.R_below (zR HO381) hb); replace HO384 := Aside0.mk (Kd.R_below (zR HO384) hb); replace HO389 := Aside0.mk (Kd.R_below (zR HO389) hb); replace HO392 := Aside0.mk (Kd.R_below (zR HO392) hb); have BK393 := Aside0.mk (hbox); have GW393 := gS HB hg; have GE393 := gS HB hg; replace HB := bS HB hb; have NB357_393 := nL BK357 hg; have NB393_357 := nR BK357 hg; replace BK357 := kB BK357 hb; have NB358_393 := nL BK358 hg; have NB393_358 := nR BK358 hg; replace BK358 := kB BK358 hb; have NB385_393 := nL BK385 hg; have NB393_385 := nR BK385 hg; replace BK385 := kB BK385 hb; clear hb hbox hg; have hnb62 := NB393_357.out; have hnc62 := NB357_393.out; have hnb63 := NB393_358.out; have hnc63 := NB358_393.out; have hnb64 := NB393_385.out; have hnc64 := NB385_393.out; have hcz65_0 := bc0 BK393; have hcz65_1 := bc1 BK393; have hcz65_2 := bc2 BK393; have hfz65_0 := bf BK393 0; have hfz65_1 := bf BK393 1; have hfz65_2 := bf BK393 2; obtain ⟨Ao66, co66, eo66⟩ := Kd.R_slice HO389.out; subst eo66; obtain ⟨Ao67, co67, eo67⟩ := Kd.R_slice HO392.out; subst eo67; have hcz68_0 := bc0 BK385; have hcz68_1 := bc1 BK385; have hcz68_2 := bc2 BK385; have hfz68_0 := bf BK385 0; have hfz68_1 := bf BK385 1; have hfz68_2 := bf BK385 2) | ((with_reducible refine gate_callee (f := 12) rfl ?_); refine goesL_ (some 35) rfl rfl Try.func12 (by kernel_rfl) rfl #[.agg #[.int .i64 t378, .slice Ao57 t379.length co57, .slice Ao58 t382.length co58], .agg #[.int .i64 t386, .slice Ao66 t387.length co66, .slice Ao67 t390.length co67]] rfl zG ?_; (with_reducible refine (impl_PairsOf.calls k t378 _ _ t379 _ _ t382 t386 _ _ t387 _ _ t390 t394 _ ?side1 ?side2 ?side3 ?side4 ?side5 ?side6 ?side7 ?side8 A24.out).mono ?_); (case side1 => refine (Kd.R_reads' (e := 4) (base := w.heap.size) (ok := fun k_ => (((True ∧ some k_ ≠ (.slice Ao46 t362.length co46 : Value).ownBlock) ∧ some k_ ≠ (.slice Ao48 t369.length co48 : Value).ownBlock) ∧ some k_ ≠ (.slice Ao66 t387.length co66 : Value).ownBlock)) (n := t379.length) (c := co57) ?_).2.2; exact (by (with_reducible repeat (first | apply Kd.R_alloc | apply Kd.R_drewN | apply Kd.R_drew)); exact (Kd.R_mono (Kd.R_far (p := ⟨gb393, 2, none⟩) (Kd.R_far (p := ⟨gb393, 1, none⟩) (Kd.R_far (p := ⟨gb393, 0, none⟩) (Kd.R_types HO381.out BK393.out (by decide)) (fun _ hk => hk.2) (.int .i64 t386)) (fun _ hk => hk.2) (.slice Ao66 t387.length co66)) (fun _ hk => hk.2) (.slice Ao67 t390.length co67)) (fun _ h_ => h_.1)))); (case side2 => exact (Kd.R_reads' HO381.out).2.1); (case side3 => refine (Kd.R_reads' (e := 64) (base := w.heap.size) (ok := fun k_ => (((True ∧ some k_ ≠ (.slice Ao47 t365.length co47 : Value).ownBlock) ∧ some k_ ≠ (.slice Ao49 t372.length co49 : Value).ownBlock) ∧ some k_ ≠ (.slice Ao67 t390.length co67 : Value).ownBlock)) (n := t382.length) (c := co58) ?_).2.2; exact (by (with_reducible repeat (first | apply Kd.R_alloc | apply Kd.R_drewN | apply Kd.R_drew)); exact (Kd.R_mono (Kd.R_far (p := ⟨gb393, 2, none⟩) (Kd.R_far (p := ⟨gb393, 1, none⟩) (Kd.R_far (p := ⟨gb393, 0, none⟩) (Kd.R_types HO384.out BK393.out (by decide)) (fun _ hk => hk.2) (.int .i64 t386)) (fun _ hk => hk.2) (.slice Ao66 t387.length co66)) (fun _ hk => hk.2) (.slice Ao67 t390.length co67)) (fun _ h_ => h_.1)))); (case side4 => exact (Kd.R_reads' HO384.out).2.1); (case side5 => refine (Kd.R_reads' (e := 4) (base := w.heap.size) (ok := fun k_ => (((True ∧ some k_ ≠ (.slice Ao46 t362.length co46 : Value).ownBlock) ∧ some k_ ≠ (.slice Ao48 t369.length co48 : Value).ownBlock) ∧ some k_ ≠ (.slice Ao57 t379.length co57 : Value).ownBlock)) (n := t387.length) (c := co66) ?_).2.2; exact (by (with_reducible repeat (first | apply Kd.R_alloc | apply Kd.R_drewN | apply Kd.R_drew)); exact (Kd.R_mono (Kd.R_far (p := ⟨gb393, 2, none⟩) (Kd.R_far (p := ⟨gb393, 1, none⟩) (Kd.R_far (p := ⟨gb393, 0, none⟩) (Kd.R_types HO389.out BK393.out (by decide)) (fun _ hk => hk.2) (.int .i64 t386)) (fun _ hk => hk.2) (.slice Ao66 t387.length co66)) (fun _ hk => hk.2) (.slice Ao67 t390.length co67)) (fun _ h_ => h_.1)))); (case side6 => exact (Kd.R_reads' HO389.out).2.1); (case side7 => refine (Kd.R_reads' (e := 64) (base := w.heap.size) (ok := fun k_ => (((True ∧ some k_ ≠ (.slice Ao47 t365.length co47 : Value).ownBlock) ∧ some k_ ≠ (.slice Ao49 t372.length co49 : Value).ownBlock) ∧ some k_ ≠ (.slice Ao58 t382.length co58 : Value).ownBlock)) (n := t390.length) (c := co67) ?_).2.2; exact (by (with_reducible repeat (first | apply Kd.R_alloc | apply Kd.R_drewN | apply Kd.R_drew)); exact (Kd.R_mono (Kd.R_far (p := ⟨gb393, 2, none⟩) (Kd.R_far (p := ⟨gb393, 1, none⟩) (Kd.R_far (p := ⟨gb393, 0, none⟩) (Kd.R_types HO392.out BK393.out (by decide)) (fun _ hk => hk.2) (.int .i64 t386)) (fun _ hk => hk.2) (.slice Ao66 t387.length co66)) (fun _ hk => hk.2) (.slice Ao67 t390.length co67)) (fun _ h_ => h_.1)))); (case side8 => exact (Kd.R_reads' HO392.out).2.1); rintro e w69 ⟨v395, rfl, ho0, hb⟩; refine ⟨_, rfl, ?_⟩; obtain ⟨lo_, hlo_⟩ := gh_size hb; have HO396 := Aside0.mk (Kd.S_lower (Kd.S_mono (ok' := fun k_ => some k_ ≠ (.slice Ao46 t362.length co46 : Value).ownBlock ∧ some k_ ≠ (.slice Ao47 t365.length co47 : Value).ownBlock ∧ some k_ ≠ (.slice Ao48 t369.length co48 : Value).ownBlock ∧ some k_ ≠ (.slice Ao49 t372.length co49 : Value).ownBlock ∧ lo_ ≤ k_ ∧ some k_ ≠ (.slice Ao57 t379.length co57 : Value).ownBlock ∧ some k_ ≠ (.slice Ao58 t382.length co58 : Value).ownBlock ∧ some k_ ≠ (.slice Ao66 t387.length co66 : Value).ownBlock ∧ some k_ ≠ (.slice Ao67 t390.length co67 : Value).ownBlock ∧ k_ ≠ gb357 ∧ k_ ≠ gb358 ∧ k_ ≠ gb385 ∧ k_ ≠ gb393) (Kd.S_bound ho0) (fun k_ hk_ => ⟨(Kd.fresh' (Kd.R_lt (by (with_reducible repeat (first | apply Kd.R_alloc | apply Kd.R_drewN | apply Kd.R_drew)); exact (Kd.R_mono (Kd.R_far (p := ⟨gb393, 2, none⟩) (Kd.R_far (p := ⟨gb393, 1, none⟩) (Kd.R_far (p := ⟨gb393, 0, none⟩) (Kd.R_types HO364.out BK393.out (by decide)) (fun _ hk => hk.2) (.int .i64 t386)) (fun _ hk => hk.2) (.slice Ao66 t387.length co66)) (fun _ hk => hk.2) (.slice Ao67 t390.length co67)) (fun _ h_ => h_.1)))) k_ hk_.2.1), (Kd.fresh' (Kd.R_lt (by (with_reducible repeat (first | apply Kd.R_alloc | apply Kd.R_drewN | apply Kd.R_drew)); exact (Kd.R_mono (Kd.R_far (p := ⟨gb393, 2, none⟩) (Kd.R_far (p := ⟨gb393, 1, none⟩) (Kd.R_far (p := ⟨gb393, 0, none⟩) (Kd.R_types HO367.out BK393.out (by decide)) (fun _ hk => hk.2) (.int .i64 t386)) (fun _ hk => hk.2) (.slice Ao66 t387.length co66)) (fun _ hk => hk.2) (.slice Ao67 t390.length co67)) (fun _ h_ => h_.1)))) k_ hk_.2.1), (Kd.fresh' (Kd.R_lt (by (with_reducible repeat (first | apply Kd.R_alloc | apply Kd.R_drewN | apply Kd.R_drew)); exact (Kd.R_mono (Kd.R_far (p := ⟨gb393, 2, none⟩) (Kd.R_far (p := ⟨gb393, 1, none⟩) (Kd.R_far (p := ⟨gb393, 0, none⟩) (Kd.R_types HO371.out BK393.out (by decide)) (fun _ hk => hk.2) (.int .i64 t386)) (fun _ hk => hk.2) (.slice Ao66 t387.length co66)) (fun _ hk => hk.2) (.slice Ao67 t390.length co67)) (fun _ h_ => h_.1)))) k_ hk_.2.1), (Kd.fresh' (Kd.R_lt (by (with_reducible repeat (first | apply Kd.R_alloc | apply Kd.R_drewN | apply Kd.R_drew)); exact (Kd.R_mono (Kd.R_far (p := ⟨gb393, 2, none⟩) (Kd.R_far (p := ⟨gb393, 1, none⟩) (Kd.R_far (p := ⟨gb393, 0, none⟩) (Kd.R_types HO374.out BK393.out (by decide)) (fun _ hk => hk.2) (.int .i64 t386)) (fun _ hk => hk.2) (.slice Ao66 t387.length co66)) (fun _ hk => hk.2) (.slice Ao67 t390.length co67)) (fun _ h_ => h_.1)))) k_ hk_.2.1), (by rw [hlo_]; exact hk_.2.1), (Kd.fresh' (Kd.R_lt (by (with_reducible repeat (first | apply Kd.R_alloc | apply Kd.R_drewN | apply Kd.R_drew)); exact (Kd.R_mono (Kd.R_far (p := ⟨gb393, 2, none⟩) (Kd.R_far (p := ⟨gb393, 1, none⟩) (Kd.R_far (p := ⟨gb393, 0, none⟩) (Kd.R_types HO381.out BK393.out (by decide)) (fun _ hk => hk.2) (.int .i64 t386)) (fun _ hk => hk.2) (.slice Ao66 t387.length co66)) (fun _ hk => hk.2) (.slice Ao67 t390.length co67)) (fun _ h_ => h_.1)))) k_ hk_.2.1), (Kd.fresh' (Kd.R_lt (by (with_reducible repeat (first | apply Kd.R_alloc | apply Kd.R_drewN | apply Kd.R_drew)); exact (Kd.R_mono (Kd.R_far (p := ⟨gb393, 2, none⟩) (Kd.R_far (p := ⟨gb393, 1, none⟩) (Kd.R_far (p := ⟨gb393, 0, none⟩) (Kd.R_types HO384.out BK393.out (by decide)) (fun _ hk => hk.2) (.int .i64 t386)) (fun _ hk => hk.2) (.slice Ao66 t387.length co66)) (fun _ hk => hk.2) (.slice Ao67 t390.length co67)) (fun _ h_ => h_.1)))) k_ hk_.2.1), (Kd.fresh' (Kd.R_lt (by (with_reducible repeat (first | apply Kd.R_alloc | apply Kd.R_drewN | apply Kd.R_drew)); exact (Kd.R_mono (Kd.R_far (p := ⟨gb393, 2, none⟩) (Kd.R_far (p := ⟨gb393, 1, none⟩) (Kd.R_far (p := ⟨gb393, 0, none⟩) (Kd.R_types HO389.out BK393.out (by decide)) (fun _ hk => hk.2) (.int .i64 t386)) (fun _ hk => hk.2) (.slice Ao66 t387.length co66)) (fun _ hk => hk.2) (.slice Ao67 t390.length co67)) (fun _ h_ => h_.1)))) k_ hk_.2.1), (Kd.fresh' (Kd.R_lt (by (with_reducible repeat (first | apply Kd.R_alloc | apply Kd.R_drewN | apply Kd.R_drew)); exact (Kd.R_mono (Kd.R_far (p := ⟨gb393, 2, none⟩) (Kd.R_far (p := ⟨gb393, 1, none⟩) (Kd.R_far (p := ⟨gb393, 0, none⟩) (Kd.R_types HO392.out BK393.out (by decide)) (fun _ hk => hk.2) (.int .i64 t386)) (fun _ hk => hk.2) (.slice Ao66 t387.length co66)) (fun _ hk => hk.2) (.slice Ao67 t390.length co67)) (fun _ h_ => h_.1)))) k_ hk_.2.1), (Kd.freshB (g := gb357) (o := .cells #[.int .i64 a0_0, .slice A0_1 l0_1.length c0_1, .slice A0_2 l0_2.length c0_2] 25 (0, 0)) (by (with_reducible repeat (first | refine blk_drewN ?_ _ | refine blk_drew ?_ | refine blk_alloc ?_ _)); refine blk_far ?_ NB357_393.out _; (with_reducible repeat (first | refine blk_drewN ?_ _ | refine blk_drew ?_ | refine blk_alloc ?_ _)); refine blk_far ?_ NB357_393.out _; (with_reducible repeat (first | refine blk_drewN ?_ _ | refine blk_drew ?_ | refine blk_alloc ?_ _)); refine blk_far ?_ NB357_393.out _; (with_reducible repeat (first | refine blk_drewN ?_ _ | refine blk_drew ?_ | refine blk_alloc ?_ _)); exact BK357.out) k_ hk_.2.1), (Kd.freshB (g := gb358) (o := .cells #[.int .i64 a1_0, .slice A1_1 l1_1.length c1_1, .slice A1_2 l1_2.length c1_2] 25 (0, 0)) (by (with_reducible repeat (first | refine blk_drewN ?_ _ | refine blk_drew ?_ | refine blk_alloc ?_ _)); refine blk_far ?_ NB358_393.out _; (with_reducible repeat (first | refine blk_drewN ?_ _ | refine blk_drew ?_ | refine blk_alloc ?_ _)); refine blk_far ?_ NB358_393.out _; (with_reducible repeat (first | refine blk_drewN ?_ _ | refine blk_drew ?_ | refine blk_alloc ?_ _)); refine blk_far ?_ NB358_393.out _; (with_reducible repeat (first | refine blk_drewN ?_ _ | refine blk_drew ?_ | refine blk_alloc ?_ _)); exact BK358.out) k_ hk_.2.1), (Kd.freshB (g := gb385) (o := .cells #[.int .i64 t378, .slice Ao57 t379.length co57, .slice Ao58 t382.length co58] 31 (0, 0)) (by (with_reducible repeat (first | refine blk_drewN ?_ _ | refine blk_drew ?_ | refine blk_alloc ?_ _)); refine blk_far ?_ NB385_393.out _; (with_reducible repeat (first | refine blk_drewN ?_ _ | refine blk_drew ?_ | refine blk_alloc ?_ _)); refine blk_far ?_ NB385_393.out _; (with_reducible repeat (first | refine blk_drewN ?_ _ | refine blk_drew ?_ | refine blk_alloc ?_ _)); refine blk_far ?_ NB385_393.out _; (with_reducible repeat (first | refine blk_drewN ?_ _ | refine blk_drew ?_ | refine blk_alloc ?_ _)); exact BK385.out) k_ hk_.2.1), (Kd.freshB (g := gb393) (o := .cells #[.int .i64 t386, .slice Ao66 t387.length co66, .slice Ao67 t390.length co67] 31 (0, 0)) (by (with_reducible repeat (first | refine blk_drewN ?_ _ | refine blk_drew ?_ | refine blk_alloc ?_ _)); refine blk_put (cs := #[.int .i64 t386, .slice Ao66 t387.length co66, .slice none 0 0]) ?_ 2 _ rfl; (with_reducible repeat (first | refine blk_drewN ?_ _ | refine blk_drew ?_ | refine blk_alloc ?_ _)); refine blk_put (cs := #[.int .i64 t386, .slice none 0 0, .slice none 0 0]) ?_ 1 _ rfl; (with_reducible repeat (first | refine blk_drewN ?_ _ | refine blk_drew ?_ | refine blk_alloc ?_ _)); refine blk_put (cs := #[.int .i64 0, .slice none 0 0, .slice none 0 0]) ?_ 0 _ rfl; (with_reducible repeat (first | refine blk_drewN ?_ _ | refine blk_drew ?_ | refine blk_alloc ?_ _)); exact BK393.out) k_ hk_.2.1)⟩)) (below_size (zB HB))); replace HO364 := Aside0.mk (Kd.R_below (by (with_reducible repeat (first | apply Kd.R_alloc | apply Kd.R_drewN | apply Kd.R_drew)); exact (Kd.R_mono (Kd.R_far (p := ⟨gb393, 2, none⟩) (Kd.R_far (p := ⟨gb393, 1, none⟩) (Kd.R_far (p := ⟨gb393, 0, none⟩) (Kd.R_types HO364.out BK393.out (by decide)) (fun _ hk => hk.2) (.int .i64 t386)) (fun _ hk => hk.2) (.slice Ao66 t387.length co66)) (fun _ hk => hk.2) (.slice Ao67 t390.length co67)) (fun _ h_ => h_.1))) hb); replace HO367 := Aside0.mk (Kd.R_below (by (with_reducible repeat (first | apply Kd.R_alloc | apply Kd.R_drewN | apply Kd.R_drew)); exact (Kd.R_mono (Kd.R_far (p := ⟨gb393, 2, none⟩) (Kd.R_far (p := ⟨gb393, 1, none⟩) (Kd.R_far (p := ⟨gb393, 0, none⟩) (Kd.R_types HO367.out BK393.out (by decide)) (fun _ hk => hk.2) (.int .i64 t386)) (fun _ hk => hk.2) (.slice Ao66 t387.length co66)) (fun _ hk => hk.2) (.slice Ao67 t390.length co67)) (fun _ h_ => h_.1))) hb); replace HO371 := Aside0.mk (Kd.R_below (by (with_reducible repeat (first | apply Kd.R_alloc | apply Kd.R_drewN | apply Kd.R_drew)); exact (Kd.R_mono (Kd.R_far (p := ⟨gb393, 2, none⟩) (Kd.R_far (p := ⟨gb393, 1, none⟩) (Kd.R_far (p := ⟨gb393, 0, none⟩) (Kd.R_types HO371.out BK393.out (by decide)) (fun _ hk => hk.2) (.int .i64 t386)) (fun _ hk => hk.2) (.slice Ao66 t387.length co66)) (fun _ hk => hk.2) (.slice Ao67 t390.length co67)) (fun _ h_ => h_.1))) hb); replace HO374 := Aside0.mk (Kd.R_below (by (with_reducible repeat (first | apply Kd.R_alloc | apply Kd.R_drewN | apply Kd.R_drew)); exact (Kd.R_mono (Kd.R_far (p := ⟨gb393, 2, none⟩) (Kd.R_far (p := ⟨gb393, 1, none⟩) (Kd.R_far (p := ⟨gb393, 0, none⟩) (Kd.R_types HO374.out BK393.out (by decide)) (fun _ hk => hk.2) (.int .i64 t386)) (fun _ hk => hk.2) (.slice Ao66 t387.length co66)) (fun _ hk => hk.2) (.slice Ao67 t390.length co67)) (fun _ h_ => h_.1))) hb); replace HO377 := Aside0.mk (gh_old (by (with_reducible repeat (first | apply Kd.N_alloc | apply Kd.N_drewN | apply Kd.N_drew)); exact (Kd.N_mono (Kd.N_far (p := ⟨gb393, 2, none⟩) (Kd.N_far (p := ⟨gb393, 1, none⟩) (Kd.N_far (p := ⟨gb393, 0, none⟩) (Kd.N_mono HO377.out (fun k_ hk => (⟨hk, hk.2⟩ : _ ∧ k_ ≠ gb393))) (fun _ hk => hk.2) (.int .i64 t386)) (fun _ hk => hk.2) (.slice Ao66 t387.length co66)) (fun _ hk => hk.2) (.slice Ao67 t390.length co67)) (fun _ h_ => h_.1))) hb hlo_); clear hlo_; replace HO381 := Aside0.mk (Kd.R_below (by (with_reducible repeat (first | apply Kd.R_alloc | apply Kd.R_drewN | apply Kd.R_drew)); exact (Kd.R_mono (Kd.R_far (p := ⟨gb393, 2, none⟩) (Kd.R_far (p := ⟨gb393, 1, none⟩) (Kd.R_far (p := ⟨gb393, 0, none⟩) (Kd.R_types HO381.out BK393.out (by decide)) (fun _ hk => hk.2) (.int .i64 t386)) (fun _ hk => hk.2) (.slice Ao66 t387.length co66)) (fun _ hk => hk.2) (.slice Ao67 t390.length co67)) (fun _ h_ => h_.1))) hb); replace HO384 := Aside0.mk (Kd.R_below (by (with_reducible repeat (first | apply Kd.R_alloc | apply Kd.R_drewN | apply Kd.R_drew)); exact (Kd.R_mono (Kd.R_far (p := ⟨gb393, 2, none⟩) (Kd.R_far (p := ⟨gb393, 1, none⟩) (Kd.R_far (p := ⟨gb393, 0, none⟩) (Kd.R_types HO384.out BK393.out (by decide)) (fun _ hk => hk.2) (.int .i64 t386)) (fun _ hk => hk.2) (.slice Ao66 t387.length co66)) (fun _ hk => hk.2) (.slice Ao67 t390.length co67)) (fun _ h_ => h_.1))) hb); replace HO389 := Aside0.mk (Kd.R_below (by (with_reducible repeat (first | apply Kd.R_alloc | apply Kd.R_drewN | apply Kd.R_drew)); exact (Kd.R_mono (Kd.R_far (p := ⟨gb393, 2, none⟩) (Kd.R_far (p := ⟨gb393, 1, none⟩) (Kd.R_far (p := ⟨gb393, 0, none⟩) (Kd.R_types HO389.out BK393.out (by decide)) (fun _ hk => hk.2) (.int .i64 t386)) (fun _ hk => hk.2) (.slice Ao66 t387.length co66)) (fun _ hk => hk.2) (.slice Ao67 t390.length co67)) (fun _ h_ => h_.1))) hb); replace HO392 := Aside0.mk (Kd.R_below (by (with_reducible repeat (first | apply Kd.R_alloc | apply Kd.R_drewN | apply Kd.R_drew)); exact (Kd.R_mono (Kd.R_far (p := ⟨gb393, 2, none⟩) (Kd.R_far (p := ⟨gb393, 1, none⟩) (Kd.R_far (p := ⟨gb393, 0, none⟩) (Kd.R_types HO392.out BK393.out (by decide)) (fun _ hk => hk.2) (.int .i64 t386)) (fun _ hk => hk.2) (.slice Ao66 t387.length co66)) (fun _ hk => hk.2) (.slice Ao67 t390.length co67)) (fun _ h_ => h_.1))) hb); replace BK357 := Aside0.mk (blk_below (g := gb357) (o := .cells #[.int .i64 a0_0, .slice A0_1 l0_1.length c0_1, .slice A0_2 l0_2.length c0_2] 25 (0, 0)) (by (with_reducible repeat (first | refine blk_drewN ?_ _ | refine blk_drew ?_ | refine blk_alloc ?_ _)); refine blk_far ?_ NB357_393.out _; (with_reducible repeat (first | refine blk_drewN ?_ _ | refine blk_drew ?_ | refine blk_alloc ?_ _)); refine blk_far ?_ NB357_393.out _; (with_reducible repeat (first | refine blk_drewN ?_ _ | refine blk_drew ?_ | refine blk_alloc ?_ _)); refine blk_far ?_ NB357_393.out _; (with_reducible repeat (first | refine blk_drewN ?_ _ | refine blk_drew ?_ | refine blk_alloc ?_ _)); exact BK357.out) hb); replace BK358 := Aside0.mk (blk_below (g := gb358) (o := .cells #[.int .i64 a1_0, .slice A1_1 l1_1.length c1_1, .slice A1_2 l1_2.length c1_2] 25 (0, 0)) (by (with_reducible repeat (first | refine blk_drewN ?_ _ | refine blk_drew ?_ | refine blk_alloc ?_ _)); refine blk_far ?_ NB358_393.out _; (with_reducible repeat (first | refine blk_drewN ?_ _ | refine blk_drew ?_ | refine blk_alloc ?_ _)); refine blk_far ?_ NB358_393.out _; (with_reducible repeat (first | refine blk_drewN ?_ _ | refine blk_drew ?_ | refine blk_alloc ?_ _)); refine blk_far ?_ NB358_393.out _; (with_reducible repeat (first | refine blk_drewN ?_ _ | refine blk_drew ?_ | refine blk_alloc ?_ _)); exact BK358.out) hb); replace BK385 := Aside0.mk (blk_below (g := gb385) (o := .cells #[.int .i64 t378, .slice Ao57 t379.length co57, .slice Ao58 t382.length co58] 31 (0, 0)) (by (with_reducible repeat (first | refine blk_drewN ?_ _ | refine blk_drew ?_ | refine blk_alloc ?_ _)); refine blk_far ?_ NB385_393.out _; (with_reducible repeat (first | refine blk_drewN ?_ _ | refine blk_drew ?_ | refine blk_alloc ?_ _)); refine blk_far ?_ NB385_393.out _; (with_reducible repeat (first | refine blk_drewN ?_ _ | refine blk_drew ?_ | refine blk_alloc ?_ _)); refine blk_far ?_ NB385_393.out _; (with_reducible repeat (first | refine blk_drewN ?_ _ | refine blk_drew ?_ | refine blk_alloc ?_ _)); exact BK385.out) hb); replace BK393 := Aside0.mk (blk_below (g := gb393) (o := .cells #[.int .i64 t386, .slice Ao66 t387.length co66, .slice Ao67 t390.length co67] 31 (0, 0)) (by (with_reducible repeat (first | refine blk_drewN ?_ _ | refine blk_drew ?_ | refine blk_alloc ?_ _)); refine blk_put (cs := #[.int .i64 t386, .slice Ao66 t387.length co66, .slice none 0 0]) ?_ 2 _ rfl; (with_reducible repeat (first | refine blk_drewN ?_ _ | refine blk_drew ?_ | refine blk_alloc ?_ _)); refine blk_put (cs := #[.int .i64 t386, .slice none 0 0, .slice none 0 0]) ?_ 1 _ rfl; (with_reducible repeat (first | refine blk_drewN ?_ _ | refine blk_drew ?_ | refine blk_alloc ?_ _)); refine blk_put (cs := #[.int .i64 0, .slice none 0 0, .slice none 0 0]) ?_ 0 _ rfl; (with_reducible repeat (first | refine blk_drewN ?_ _ | refine blk_drew ?_ | refine blk_alloc ?_ _)); exact BK393.out) hb); replace HB := bS HB hb; (try clear hb); (try clear ho0); obtain ⟨Ao70, co70, eo70⟩ := Kd.S_slice HO396.out; subst eo70; obtain ⟨Ao71, co71, eo71⟩ := Kd.N_slice HO377.out; subst eo71) | ((with_reducible refine gate_callee (f := 13) rfl ?_); refine goesL_ (some 38) rfl rfl Try.func13 (by kernel_rfl) rfl #[.slice Ao70 t394.length co70, .slice Ao71 t375.length co71] rfl zG ?_; (with_reducible refine (laws_eqIntSS.calls k _ _ t394 _ _ t375 true _ ?side1 ?side2 ?side3 ?side4 A25.out).mono ?_); (case side1 => repeat (first | exact (Kd.S_reads' HO396.out).2.2 | (with_reducible refine Kd.C_alloc ?_ _) | (with_reducible refine Kd.C_drewN ?_ _) | (with_reducible refine Kd.C_drew ?_))); (case side2 => exact (Kd.S_reads' HO396.out).2.1); (case side3 => repeat (first | exact (Kd.N_reads' HO377.out).2.2 | (with_reducible refine Kd.C_alloc ?_ _) | (with_reducible refine Kd.C_drewN ?_ _) | (with_reducible refine Kd.C_drew ?_))); (case side4 => exact (Kd.N_reads' HO377.out).2.1); rintro e w' ⟨rfl, ⟨nd, rfl⟩⟩; refine ⟨_, rfl, ?_⟩))
      (try (rw [drewN_self w69]; generalize hq_ : World.drewN w69 _ = w69; have n0_ : Aside0 (Kd.R Kd.bool 4 w69 w.heap.size (fun k_ => some k_ ≠ (.slice Ao48 t369.length co48 : Value).ownBlock ∧ some k_ ≠ (.slice Ao57 t379.length co57 : Value).ownBlock ∧ some k_ ≠ (.slice Ao66 t387.length co66 : Value).ownBlock) (.slice Ao46 t362.length co46) t362) := ⟨by rw [← hq_]; exact (by (with_reducible repeat (first | apply Kd.R_alloc | apply Kd.R_drewN | apply Kd.R_drew)); exact Kd.R_mono HO364.out (fun _ hk => ⟨hk.1.1.2, ⟨hk.1.2, hk.2⟩⟩))⟩; have n1_ : Aside0 (Kd.R k64 64 w69 w.heap.size (fun k_ => some k_ ≠ (.slice Ao49 t372.length co49 : Value).ownBlock ∧ some k_ ≠ (.slice Ao58 t382.length co58 : Value).ownBlock ∧ some k_ ≠ (.slice Ao67 t390.length co67 : Value).ownBlock) (.slice Ao47 t365.length co47) t365) := ⟨by rw [← hq_]; exact (by (with_reducible repeat (first | apply Kd.R_alloc | apply Kd.R_drewN | apply Kd.R_drew)); exact Kd.R_mono HO367.out (fun _ hk => ⟨hk.1.1.2, ⟨hk.1.2, hk.2⟩⟩))⟩; have n2_ : Aside0 (Kd.R Kd.bool 4 w69 w.heap.size (fun k_ => some k_ ≠ (.slice Ao46 t362.length co46 : Value).ownBlock ∧ some k_ ≠ (.slice Ao57 t379.length co57 : Value).ownBlock ∧ some k_ ≠ (.slice Ao66 t387.length co66 : Value).ownBlock) (.slice Ao48 t369.length co48) t369) := ⟨by rw [← hq_]; exact (by (with_reducible repeat (first | apply Kd.R_alloc | apply Kd.R_drewN | apply Kd.R_drew)); exact Kd.R_mono HO371.out (fun _ hk => ⟨hk.1.1.2, ⟨hk.1.2, hk.2⟩⟩))⟩; have n3_ : Aside0 (Kd.R k64 64 w69 w.heap.size (fun k_ => some k_ ≠ (.slice Ao47 t365.length co47 : Value).ownBlock ∧ some k_ ≠ (.slice Ao58 t382.length co58 : Value).ownBlock ∧ some k_ ≠ (.slice Ao67 t390.length co67 : Value).ownBlock) (.slice Ao49 t372.length co49) t372) := ⟨by rw [← hq_]; exact (by (with_reducible repeat (first | apply Kd.R_alloc | apply Kd.R_drewN | apply Kd.R_drew)); exact Kd.R_mono HO374.out (fun _ hk => ⟨hk.1.1.2, ⟨hk.1.2, hk.2⟩⟩))⟩; have n4_ : Aside0 (Kd.N (Kd.slice 3 (Kd.int .i64)) 38 w69 w.heap.size (fun k_ => some k_ ≠ (.slice Ao46 t362.length co46 : Value).ownBlock ∧ some k_ ≠ (.slice Ao47 t365.length co47 : Value).ownBlock ∧ some k_ ≠ (.slice Ao48 t369.length co48 : Value).ownBlock ∧ some k_ ≠ (.slice Ao49 t372.length co49 : Value).ownBlock ∧ some k_ ≠ (.slice Ao57 t379.length co57 : Value).ownBlock ∧ some k_ ≠ (.slice Ao58 t382.length co58 : Value).ownBlock ∧ some k_ ≠ (.slice Ao66 t387.length co66 : Value).ownBlock ∧ some k_ ≠ (.slice Ao67 t390.length co67 : Value).ownBlock ∧ k_ < lo_ ∧ k_ ≠ gb357 ∧ k_ ≠ gb358 ∧ k_ ≠ gb385 ∧ k_ ≠ gb393) (.slice Ao71 t375.length co71) t375) := ⟨by rw [← hq_]; exact (by (with_reducible repeat (first | apply Kd.N_alloc | apply Kd.N_drewN | apply Kd.N_drew)); exact Kd.N_mono HO377.out (fun _ hk => ⟨hk.1.1.1.1.1.1.1.1, ⟨hk.1.1.1.1.1.1.1.2.1, ⟨hk.1.1.1.1.1.1.1.2.2.1, ⟨hk.1.1.1.1.1.1.1.2.2.2.1, ⟨hk.1.1.1.1.1.1.2, ⟨hk.1.1.1.1.1.2, ⟨hk.1.1.1.2, ⟨hk.1.1.2, ⟨hk.2, ⟨hk.1.1.1.1.1.1.1.2.2.2.2.1, ⟨hk.1.1.1.1.1.1.1.2.2.2.2.2, ⟨hk.1.1.1.1.2, hk.1.2⟩⟩⟩⟩⟩⟩⟩⟩⟩⟩⟩⟩))⟩; have n5_ : Aside0 (Kd.R Kd.bool 4 w69 w.heap.size (fun k_ => some k_ ≠ (.slice Ao46 t362.length co46 : Value).ownBlock ∧ some k_ ≠ (.slice Ao48 t369.length co48 : Value).ownBlock ∧ some k_ ≠ (.slice Ao66 t387.length co66 : Value).ownBlock) (.slice Ao57 t379.length co57) t379) := ⟨by rw [← hq_]; exact (by (with_reducible repeat (first | apply Kd.R_alloc | apply Kd.R_drewN | apply Kd.R_drew)); exact Kd.R_mono HO381.out (fun _ hk => ⟨hk.1.1.2, ⟨hk.1.2, hk.2⟩⟩))⟩; have n6_ : Aside0 (Kd.R k64 64 w69 w.heap.size (fun k_ => some k_ ≠ (.slice Ao47 t365.length co47 : Value).ownBlock ∧ some k_ ≠ (.slice Ao49 t372.length co49 : Value).ownBlock ∧ some k_ ≠ (.slice Ao67 t390.length co67 : Value).ownBlock) (.slice Ao58 t382.length co58) t382) := ⟨by rw [← hq_]; exact (by (with_reducible repeat (first | apply Kd.R_alloc | apply Kd.R_drewN | apply Kd.R_drew)); exact Kd.R_mono HO384.out (fun _ hk => ⟨hk.1.1.2, ⟨hk.1.2, hk.2⟩⟩))⟩; have n7_ : Aside0 (Kd.R Kd.bool 4 w69 w.heap.size (fun k_ => some k_ ≠ (.slice Ao46 t362.length co46 : Value).ownBlock ∧ some k_ ≠ (.slice Ao48 t369.length co48 : Value).ownBlock ∧ some k_ ≠ (.slice Ao57 t379.length co57 : Value).ownBlock) (.slice Ao66 t387.length co66) t387) := ⟨by rw [← hq_]; exact (by (with_reducible repeat (first | apply Kd.R_alloc | apply Kd.R_drewN | apply Kd.R_drew)); exact Kd.R_mono HO389.out (fun _ hk => ⟨hk.1.1.2, ⟨hk.1.2, hk.2⟩⟩))⟩; have n8_ : Aside0 (Kd.R k64 64 w69 w.heap.size (fun k_ => some k_ ≠ (.slice Ao47 t365.length co47 : Value).ownBlock ∧ some k_ ≠ (.slice Ao49 t372.length co49 : Value).ownBlock ∧ some k_ ≠ (.slice Ao58 t382.length co58 : Value).ownBlock) (.slice Ao67 t390.length co67) t390) := ⟨by rw [← hq_]; exact (by (with_reducible repeat (first | apply Kd.R_alloc | apply Kd.R_drewN | apply Kd.R_drew)); exact Kd.R_mono HO392.out (fun _ hk => ⟨hk.1.1.2, ⟨hk.1.2, hk.2⟩⟩))⟩; have n9_ : Aside0 (Kd.S (Kd.slice 3 (Kd.int .i64)) 38 w69 w.heap.size (fun k_ => some k_ ≠ (.slice Ao46 t362.length co46 : Value).ownBlock ∧ some k_ ≠ (.slice Ao47 t365.length co47 : Value).ownBlock ∧ some k_ ≠ (.slice Ao48 t369.length co48 : Value).ownBlock ∧ some k_ ≠ (.slice Ao49 t372.length co49 : Value).ownBlock ∧ lo_ ≤ k_ ∧ some k_ ≠ (.slice Ao57 t379.length co57 : Value).ownBlock ∧ some k_ ≠ (.slice Ao58 t382.length co58 : Value).ownBlock ∧ some k_ ≠ (.slice Ao66 t387.length co66 : Value).ownBlock ∧ some k_ ≠ (.slice Ao67 t390.length co67 : Value).ownBlock ∧ k_ ≠ gb357 ∧ k_ ≠ gb358 ∧ k_ ≠ gb385 ∧ k_ ≠ gb393) (.slice Ao70 t394.length co70) t394) := ⟨by rw [← hq_]; exact (by (with_reducible repeat (first | apply Kd.S_alloc | apply Kd.S_drewN | apply Kd.S_drew)); exact HO396.out)⟩; have n10_ : Aside0 (w69.heap[gb357]? = some (.cells #[.int .i64 a0_0, .slice A0_1 l0_1.length c0_1, .slice A0_2 l0_2.length c0_2] 25 (0, 0))) := ⟨by rw [← hq_]; exact (zK BK357)⟩; have n11_ : Aside0 (w69.heap[gb358]? = some (.cells #[.int .i64 a1_0, .slice A1_1 l1_1.length c1_1, .slice A1_2 l1_2.length c1_2] 25 (0, 0))) := ⟨by rw [← hq_]; exact (zK BK358)⟩; have n12_ : Aside0 (w69.heap[gb385]? = some (.cells #[.int .i64 t378, .slice Ao57 t379.length co57, .slice Ao58 t382.length co58] 31 (0, 0))) := ⟨by rw [← hq_]; exact (zK BK385)⟩; have n13_ : Aside0 (w69.heap[gb393]? = some (.cells #[.int .i64 t386, .slice Ao66 t387.length co66, .slice Ao67 t390.length co67] 31 (0, 0))) := ⟨by rw [← hq_]; exact (zK BK393)⟩; have n14_ : Aside0 (Below w.heap.size w w69) := ⟨by rw [← hq_]; exact (zB HB)⟩; clear HO364 HO367 HO371 HO374 HO377 HO381 HO384 HO389 HO392 HO396 BK357 BK358 BK385 BK393 HB hq_; have HO364 := n0_; have HO367 := n1_; have HO371 := n2_; have HO374 := n3_; have HO377 := n4_; have HO381 := n5_; have HO384 := n6_; have HO389 := n7_; have HO392 := n8_; have HO396 := n9_; have BK357 := n10_; have BK358 := n11_; have BK385 := n12_; have BK393 := n13_; have HB := n14_; clear n0_ n1_ n2_ n3_ n4_ n5_ n6_ n7_ n8_ n9_ n10_ n11_ n12_ n13_ n14_; have hcw357_0 : w69.cell? ⟨gb357, 0, none⟩ = some (.int .i64 a0_0) := bc0 BK357; have hfw357_0 := bf BK357 0; have hcw357_1 : w69.cell? ⟨gb357, 1, none⟩ = some (.slice A0_1 l0_1.length c0_1) := bc1 BK357; have hfw357_1 := bf BK357 1; have hcw357_2 : w69.cell? ⟨gb357, 2, none⟩ = some (.slice A0_2 l0_2.length c0_2) := bc2 BK357; have hfw357_2 := bf BK357 2; have hcw358_0 : w69.cell? ⟨gb358, 0, none⟩ = some (.int .i64 a1_0) := bc0 BK358; have hfw358_0 := bf BK358 0; have hcw358_1 : w69.cell? ⟨gb358, 1, none⟩ = some (.slice A1_1 l1_1.length c1_1) := bc1 BK358; have hfw358_1 := bf BK358 1; have hcw358_2 : w69.cell? ⟨gb358, 2, none⟩ = some (.slice A1_2 l1_2.length c1_2) := bc2 BK358; have hfw358_2 := bf BK358 2; have hcw385_0 : w69.cell? ⟨gb385, 0, none⟩ = some (.int .i64 t378) := bc0 BK385; have hfw385_0 := bf BK385 0; have hcw385_1 : w69.cell? ⟨gb385, 1, none⟩ = some (.slice Ao57 t379.length co57) := bc1 BK385; have hfw385_1 := bf BK385 1; have hcw385_2 : w69.cell? ⟨gb385, 2, none⟩ = some (.slice Ao58 t382.length co58) := bc2 BK385; have hfw385_2 := bf BK385 2; have hcw393_0 : w69.cell? ⟨gb393, 0, none⟩ = some (.int .i64 t386) := bc0 BK393; have hfw393_0 := bf BK393 0; have hcw393_1 : w69.cell? ⟨gb393, 1, none⟩ = some (.slice Ao66 t387.length co66) := bc1 BK393; have hfw393_1 := bf BK393 1; have hcw393_2 : w69.cell? ⟨gb393, 2, none⟩ = some (.slice Ao67 t390.length co67) := bc2 BK393; have hfw393_2 := bf BK393 2))
      try (obtain ⟨wn_, hwn_⟩ : ∃ x_ : World, x_ = w69.drewN nd := ⟨_, rfl⟩; rw [← hwn_]; have hq_ := Kd.R_drewN HO364.out nd; rw [← hwn_] at hq_; replace HO364 := Aside0.mk hq_; clear hq_; have hq_ := Kd.R_drewN HO367.out nd; rw [← hwn_] at hq_; replace HO367 := Aside0.mk hq_; clear hq_; have hq_ := Kd.R_drewN HO371.out nd; rw [← hwn_] at hq_; replace HO371 := Aside0.mk hq_; clear hq_; have hq_ := Kd.R_drewN HO374.out nd; rw [← hwn_] at hq_; replace HO374 := Aside0.mk hq_; clear hq_; have hq_ := Kd.N_drewN HO377.out nd; rw [← hwn_] at hq_; replace HO377 := Aside0.mk hq_; clear hq_; have hq_ := Kd.R_drewN HO381.out nd; rw [← hwn_] at hq_; replace HO381 := Aside0.mk hq_; clear hq_; have hq_ := Kd.R_drewN HO384.out nd; rw [← hwn_] at hq_; replace HO384 := Aside0.mk hq_; clear hq_; have hq_ := Kd.R_drewN HO389.out nd; rw [← hwn_] at hq_; replace HO389 := Aside0.mk hq_; clear hq_; have hq_ := Kd.R_drewN HO392.out nd; rw [← hwn_] at hq_; replace HO392 := Aside0.mk hq_; clear hq_; have hq_ := Kd.S_drewN HO396.out nd; rw [← hwn_] at hq_; replace HO396 := Aside0.mk hq_; clear hq_; have hq_ := blk_drewN BK357.out nd; rw [← hwn_] at hq_; replace BK357 := Aside0.mk hq_; clear hq_; have hq_ := blk_drewN BK358.out nd; rw [← hwn_] at hq_; replace BK358 := Aside0.mk hq_; clear hq_; have hq_ := blk_drewN BK385.out nd; rw [← hwn_] at hq_; replace BK385 := Aside0.mk hq_; clear hq_; have hq_ := blk_drewN BK393.out nd; rw [← hwn_] at hq_; replace BK393 := Aside0.mk hq_; clear hq_; have hq_ := pw_below_drewN HB.out nd; rw [← hwn_] at hq_; replace HB := Aside0.mk hq_; clear hq_; clear hwn_)
      replace HO364 := Aside0.mk (Kd.R_drew HO364.out)
      replace HO367 := Aside0.mk (Kd.R_drew HO367.out)
      replace HO371 := Aside0.mk (Kd.R_drew HO371.out)
      replace HO374 := Aside0.mk (Kd.R_drew HO374.out)
      replace HO377 := Aside0.mk (Kd.N_drew HO377.out)
      replace HO381 := Aside0.mk (Kd.R_drew HO381.out)
      replace HO384 := Aside0.mk (Kd.R_drew HO384.out)
      replace HO389 := Aside0.mk (Kd.R_drew HO389.out)
      replace HO392 := Aside0.mk (Kd.R_drew HO392.out)
      replace HO396 := Aside0.mk (Kd.S_drew HO396.out)
      replace BK357 := Aside0.mk (blk_drew BK357.out)
      replace BK358 := Aside0.mk (blk_drew BK358.out)
      replace BK385 := Aside0.mk (blk_drew BK385.out)
      replace BK393 := Aside0.mk (blk_drew BK393.out)
      replace HB := Aside0.mk (below_drew1 HB.out)
      refine start_ (n := 5) (S := fun w' => w'.cell? ⟨gb385, 0, none⟩ = some (.int .i64 t378) ∧ w'.cell? ⟨gb385, 1, none⟩ = some (.slice Ao57 t379.length co57) ∧ w'.cell? ⟨gb385, 2, none⟩ = some (.slice Ao58 t382.length co58) ∧ w'.cell? ⟨gb357, 0, none⟩ = some (.int .i64 a0_0) ∧ w'.cell? ⟨gb357, 1, none⟩ = some (.slice A0_1 l0_1.length c0_1) ∧ w'.cell? ⟨gb357, 2, none⟩ = some (.slice A0_2 l0_2.length c0_2)) (ds := []) #[false, false, false, false, false] (by kernel_rfl) rfl rfl ⟨bc0 BK385, bc1 BK385, bc2 BK385, bc0 BK357, bc1 BK357, bc2 BK357⟩ (fun hHeld => ?_)
      first | (generalize wn_.drew = w72 at HO364 HO367 HO371 HO374 HO377 HO381 HO384 HO389 HO392 HO396 BK357 BK358 BK385 BK393 HB hHeld ⊢) | (generalize w69.drew = w72 at HO364 HO367 HO371 HO374 HO377 HO381 HO384 HO389 HO392 HO396 BK357 BK358 BK385 BK393 HB hHeld ⊢)
      refine take_ (i := 0) (N := some 40) (v := ?_) (a' := ?_) #[true, false, false, false, false] rfl rfl (by kernel_rfl) (fun _ _ _ h => h) (Or.inl ⟨by rfl, ?_⟩) hHeld ?_ ?_
      rotate_left
      ·rintro w' ⟨s0, s1, s2, s3, s4, s5⟩
       go_simp
       with_reducible rfl
      rotate_left
      ·simp only [Act.put, List.setIfInBounds_toArray, List.set_cons_zero, List.set_cons_succ, i64_w, i32_w]
       rfl
      refine take_ (i := 1) (N := some 41) (v := ?_) (a' := ?_) #[true, true, false, false, false] rfl rfl (by kernel_rfl) (fun _ _ _ h => h) (Or.inl ⟨by rfl, ?_⟩) hHeld ?_ ?_
      rotate_left
      ·rintro w' ⟨s0, s1, s2, s3, s4, s5⟩
       go_simp
       with_reducible rfl
      rotate_left
      ·simp only [Act.put, List.setIfInBounds_toArray, List.set_cons_zero, List.set_cons_succ, i64_w, i32_w]
       rfl
      refine one_ (i := 2) (N := some 42) #[true, true, true, false, false] rfl rfl (by kernel_rfl) (by decide) (fun K hK => ?_)
      refine goes_ Try.func11 (by kernel_rfl) rfl #[.agg #[.int .i64 a0_0, .slice A0_1 l0_1.length c0_1, .slice A0_2 l0_2.length c0_2]] (by rfl) rfl rfl zG ?_
      with_reducible refine (laws_toMachine.calls k a0_0 _ _ l0_1 _ _ l0_2 t398 t399 t402 _ ?side1 ?side2 ?side3 ?side4 A27.out).mono ?_
      (case side1 => exact cS HR0_1 HB)
      (case side2 => exact HC0_1.out)
      (case side3 => exact cS HR0_2 HB)
      (case side4 => exact HC0_2.out)
      rintro e w73 ⟨v400, v403, rfl, ho0, ho1, hb⟩
      refine ⟨_, rfl, ?_⟩
      replace HO377 := Aside0.mk (Kd.N_mono (Kd.N_told (Kd.N_told (Kd.N_old (by (with_reducible repeat (first | apply Kd.N_alloc | apply Kd.N_drewN | apply Kd.N_drew)); exact HO377.out) hb) (Kd.R_base ho0)) (Kd.R_base ho1)) (fun _ h_ => h_.1))
      replace HO396 := Aside0.mk (Kd.S_mono (Kd.S_told (Kd.S_told (Kd.S_old (by (with_reducible repeat (first | apply Kd.S_alloc | apply Kd.S_drewN | apply Kd.S_drew)); exact HO396.out) hb) (Kd.R_base ho0)) (Kd.R_base ho1)) (fun _ h_ => h_.1))
      have HO401 := Aside0.mk (Kd.R_lower (Kd.R_new' (Kd.R_new' (Kd.R_new' (Kd.R_new' ho0 (Kd.R_lt (zR HO364))) (Kd.R_lt (zR HO371))) (Kd.R_lt (zR HO381))) (Kd.R_lt (zR HO389))) (below_size (zB HB)))
      replace HO364 := Aside0.mk (Kd.R_elder' (zR HO364) (Kd.R_base ho0) hb)
      replace HO371 := Aside0.mk (Kd.R_elder' (zR HO371) (Kd.R_base ho0) hb)
      replace HO381 := Aside0.mk (Kd.R_elder' (zR HO381) (Kd.R_base ho0) hb)
      replace HO389 := Aside0.mk (Kd.R_elder' (zR HO389) (Kd.R_base ho0) hb)
      have HO404 := Aside0.mk (Kd.R_lower (Kd.R_new' (Kd.R_new' (Kd.R_new' (Kd.R_new' ho1 (Kd.R_lt (zR HO367))) (Kd.R_lt (zR HO374))) (Kd.R_lt (zR HO384))) (Kd.R_lt (zR HO392))) (below_size (zB HB)))
      replace HO367 := Aside0.mk (Kd.R_elder' (zR HO367) (Kd.R_base ho1) hb)
      replace HO374 := Aside0.mk (Kd.R_elder' (zR HO374) (Kd.R_base ho1) hb)
      replace HO384 := Aside0.mk (Kd.R_elder' (zR HO384) (Kd.R_base ho1) hb)
      replace HO392 := Aside0.mk (Kd.R_elder' (zR HO392) (Kd.R_base ho1) hb)
      replace BK357 := kB BK357 hb
      replace BK358 := kB BK358 hb
      replace BK385 := kB BK385 hb
      replace BK393 := kB BK393 hb
      replace HB := bS HB hb
      (try clear hb)
      (try clear hb2)
      (try clear hk)
      (try clear hi)
      (try clear ho0)
      (try clear ho1)
      obtain ⟨Ao74, co74, eo74⟩ := Kd.R_slice HO401.out
      (first | subst eo74 | (injection eo74 with f1_ f2_ f3_; have f4_ := f1_.symm; have f5_ := f3_.symm; clear f1_ f2_ f3_; subst f4_; subst f5_))
      obtain ⟨Ao75, co75, eo75⟩ := Kd.R_slice HO404.out
      (first | subst eo75 | (injection eo75 with f1_ f2_ f3_; have f4_ := f1_.symm; have f5_ := f3_.symm; clear f1_ f2_ f3_; subst f4_; subst f5_))
      refine hK.out _ _ ⟨bc0 BK385, bc1 BK385, bc2 BK385, bc0 BK357, bc1 BK357, bc2 BK357⟩ (fun hHeld => ?_)
      clear hK K
      refine norm_ (a' := ?_) ?_ ?_
      rotate_left
      ·show Act.put _ (some 42) _ = _
       simp only [Act.put, List.setIfInBounds_toArray, List.set_cons_zero, List.set_cons_succ, i64_w, i32_w]
       rfl
      refine one_ (i := 3) (N := some 43) #[true, true, true, true, false] rfl rfl (by kernel_rfl) (by decide) (fun K hK => ?_)
      refine goes_ Try.func14 (by kernel_rfl) rfl #[.agg #[.int .i64 t378, .slice Ao57 t379.length co57, .slice Ao58 t382.length co58], .agg #[.int .i64 t398, .slice Ao74 t399.length co74, .slice Ao75 t402.length co75]] (by rfl) rfl rfl zG ?_
      with_reducible refine (laws_eqMachine.calls k t378 _ _ t379 _ _ t382 t398 _ _ t399 _ _ t402 true _ ?side1 ?side2 ?side3 ?side4 ?side5 ?side6 ?side7 ?side8 A28.out).mono ?_
      (case side1 => repeat (first | exact (Kd.R_reads' HO381.out).2.2 | (with_reducible refine Kd.C_alloc ?_ _) | (with_reducible refine Kd.C_drewN ?_ _) | (with_reducible refine Kd.C_drew ?_)))
      (case side2 => exact (Kd.R_reads' HO381.out).2.1)
      (case side3 => repeat (first | exact (Kd.R_reads' HO384.out).2.2 | (with_reducible refine Kd.C_alloc ?_ _) | (with_reducible refine Kd.C_drewN ?_ _) | (with_reducible refine Kd.C_drew ?_)))
      (case side4 => exact (Kd.R_reads' HO384.out).2.1)
      (case side5 => repeat (first | exact (Kd.R_reads' HO401.out).2.2 | (with_reducible refine Kd.C_alloc ?_ _) | (with_reducible refine Kd.C_drewN ?_ _) | (with_reducible refine Kd.C_drew ?_)))
      (case side6 => exact (Kd.R_reads' HO401.out).2.1)
      (case side7 => repeat (first | exact (Kd.R_reads' HO404.out).2.2 | (with_reducible refine Kd.C_alloc ?_ _) | (with_reducible refine Kd.C_drewN ?_ _) | (with_reducible refine Kd.C_drew ?_)))
      (case side8 => exact (Kd.R_reads' HO404.out).2.1)
      rintro e w76 ⟨rfl, hb⟩
      refine ⟨_, rfl, ?_⟩
      replace HO364 := Aside0.mk (Kd.R_below (zR HO364) hb)
      replace HO367 := Aside0.mk (Kd.R_below (zR HO367) hb)
      replace HO371 := Aside0.mk (Kd.R_below (zR HO371) hb)
      replace HO374 := Aside0.mk (Kd.R_below (zR HO374) hb)
      replace HO377 := Aside0.mk (Kd.N_below (by (with_reducible repeat (first | apply Kd.N_alloc | apply Kd.N_drewN | apply Kd.N_drew)); exact HO377.out) hb)
      replace HO381 := Aside0.mk (Kd.R_below (zR HO381) hb)
      replace HO384 := Aside0.mk (Kd.R_below (zR HO384) hb)
      replace HO389 := Aside0.mk (Kd.R_below (zR HO389) hb)
      replace HO392 := Aside0.mk (Kd.R_below (zR HO392) hb)
      replace HO396 := Aside0.mk (Kd.S_below (by (with_reducible repeat (first | apply Kd.S_alloc | apply Kd.S_drewN | apply Kd.S_drew)); exact HO396.out) hb)
      replace HO401 := Aside0.mk (Kd.R_below (zR HO401) hb)
      replace HO404 := Aside0.mk (Kd.R_below (zR HO404) hb)
      replace BK357 := kB BK357 hb
      replace BK358 := kB BK358 hb
      replace BK385 := kB BK385 hb
      replace BK393 := kB BK393 hb
      replace HB := bS HB hb
      (try clear hb)
      (try clear hb2)
      (try clear hk)
      (try clear hi)
      refine hK.out _ _ ⟨bc0 BK385, bc1 BK385, bc2 BK385, bc0 BK357, bc1 BK357, bc2 BK357⟩ (fun hHeld => ?_)
      clear hK K
      refine norm_ (a' := ?_) ?_ ?_
      rotate_left
      ·show Act.put _ (some 43) _ = _
       simp only [Act.put, List.setIfInBounds_toArray, List.set_cons_zero, List.set_cons_succ, i64_w, i32_w]
       rfl
      refine pure_ (i := 4) (N := some 44) (v := ?_) (a' := ?_) #[true, true, true, true, true] rfl rfl (by kernel_rfl) (fun _ _ _ h => h) (Or.inl ⟨by rfl, ?_⟩) ?_ ?_
      rotate_left
      ·intro w'
       go_simp
       with_reducible rfl
      rotate_left
      ·simp only [Act.put, List.setIfInBounds_toArray, List.set_cons_zero, List.set_cons_succ, i64_w, i32_w]
       rfl
      refine done_ (by kernel_rfl) ?_
      try clear hHeld
      try go_wp2
      replace HO364 := Aside0.mk (Kd.R_drew HO364.out)
      replace HO367 := Aside0.mk (Kd.R_drew HO367.out)
      replace HO371 := Aside0.mk (Kd.R_drew HO371.out)
      replace HO374 := Aside0.mk (Kd.R_drew HO374.out)
      replace HO377 := Aside0.mk (Kd.N_drew HO377.out)
      replace HO381 := Aside0.mk (Kd.R_drew HO381.out)
      replace HO384 := Aside0.mk (Kd.R_drew HO384.out)
      replace HO389 := Aside0.mk (Kd.R_drew HO389.out)
      replace HO392 := Aside0.mk (Kd.R_drew HO392.out)
      replace HO396 := Aside0.mk (Kd.S_drew HO396.out)
      replace HO401 := Aside0.mk (Kd.R_drew HO401.out)
      replace HO404 := Aside0.mk (Kd.R_drew HO404.out)
      replace BK357 := Aside0.mk (blk_drew BK357.out)
      replace BK358 := Aside0.mk (blk_drew BK358.out)
      replace BK385 := Aside0.mk (blk_drew BK385.out)
      replace BK393 := Aside0.mk (blk_drew BK393.out)
      replace HB := Aside0.mk (below_drew1 HB.out)
      refine start_ (n := 5) (S := fun w' => w'.cell? ⟨gb393, 0, none⟩ = some (.int .i64 t386) ∧ w'.cell? ⟨gb393, 1, none⟩ = some (.slice Ao66 t387.length co66) ∧ w'.cell? ⟨gb393, 2, none⟩ = some (.slice Ao67 t390.length co67) ∧ w'.cell? ⟨gb358, 0, none⟩ = some (.int .i64 a1_0) ∧ w'.cell? ⟨gb358, 1, none⟩ = some (.slice A1_1 l1_1.length c1_1) ∧ w'.cell? ⟨gb358, 2, none⟩ = some (.slice A1_2 l1_2.length c1_2)) (ds := []) #[false, false, false, false, false] (by kernel_rfl) rfl rfl ⟨bc0 BK393, bc1 BK393, bc2 BK393, bc0 BK358, bc1 BK358, bc2 BK358⟩ (fun hHeld => ?_)
      generalize w76.drew = w77 at HO364 HO367 HO371 HO374 HO377 HO381 HO384 HO389 HO392 HO396 HO401 HO404 BK357 BK358 BK385 BK393 HB hHeld ⊢
      refine take_ (i := 0) (N := some 45) (v := ?_) (a' := ?_) #[true, false, false, false, false] rfl rfl (by kernel_rfl) (fun _ _ _ h => h) (Or.inl ⟨by rfl, ?_⟩) hHeld ?_ ?_
      rotate_left
      ·rintro w' ⟨s0, s1, s2, s3, s4, s5⟩
       go_simp
       with_reducible rfl
      rotate_left
      ·simp only [Act.put, List.setIfInBounds_toArray, List.set_cons_zero, List.set_cons_succ, i64_w, i32_w]
       rfl
      refine take_ (i := 1) (N := some 46) (v := ?_) (a' := ?_) #[true, true, false, false, false] rfl rfl (by kernel_rfl) (fun _ _ _ h => h) (Or.inl ⟨by rfl, ?_⟩) hHeld ?_ ?_
      rotate_left
      ·rintro w' ⟨s0, s1, s2, s3, s4, s5⟩
       go_simp
       with_reducible rfl
      rotate_left
      ·simp only [Act.put, List.setIfInBounds_toArray, List.set_cons_zero, List.set_cons_succ, i64_w, i32_w]
       rfl
      refine one_ (i := 2) (N := some 47) #[true, true, true, false, false] rfl rfl (by kernel_rfl) (by decide) (fun K hK => ?_)
      refine goes_ Try.func11 (by kernel_rfl) rfl #[.agg #[.int .i64 a1_0, .slice A1_1 l1_1.length c1_1, .slice A1_2 l1_2.length c1_2]] (by rfl) rfl rfl zG ?_
      with_reducible refine (laws_toMachine.calls k a1_0 _ _ l1_1 _ _ l1_2 t406 t407 t410 _ ?side1 ?side2 ?side3 ?side4 A30.out).mono ?_
      (case side1 => exact cS HR1_1 HB)
      (case side2 => exact HC1_1.out)
      (case side3 => exact cS HR1_2 HB)
      (case side4 => exact HC1_2.out)
      rintro e w78 ⟨v408, v411, rfl, ho0, ho1, hb⟩
      refine ⟨_, rfl, ?_⟩
      replace HO377 := Aside0.mk (Kd.N_mono (Kd.N_told (Kd.N_told (Kd.N_old (by (with_reducible repeat (first | apply Kd.N_alloc | apply Kd.N_drewN | apply Kd.N_drew)); exact HO377.out) hb) (Kd.R_base ho0)) (Kd.R_base ho1)) (fun _ h_ => h_.1))
      replace HO396 := Aside0.mk (Kd.S_mono (Kd.S_told (Kd.S_told (Kd.S_old (by (with_reducible repeat (first | apply Kd.S_alloc | apply Kd.S_drewN | apply Kd.S_drew)); exact HO396.out) hb) (Kd.R_base ho0)) (Kd.R_base ho1)) (fun _ h_ => h_.1))
      have HO409 := Aside0.mk (Kd.R_lower (Kd.R_new' (Kd.R_new' (Kd.R_new' (Kd.R_new' (Kd.R_new' ho0 (Kd.R_lt (zR HO364))) (Kd.R_lt (zR HO371))) (Kd.R_lt (zR HO381))) (Kd.R_lt (zR HO389))) (Kd.R_lt (zR HO401))) (below_size (zB HB)))
      replace HO364 := Aside0.mk (Kd.R_elder' (zR HO364) (Kd.R_base ho0) hb)
      replace HO371 := Aside0.mk (Kd.R_elder' (zR HO371) (Kd.R_base ho0) hb)
      replace HO381 := Aside0.mk (Kd.R_elder' (zR HO381) (Kd.R_base ho0) hb)
      replace HO389 := Aside0.mk (Kd.R_elder' (zR HO389) (Kd.R_base ho0) hb)
      replace HO401 := Aside0.mk (Kd.R_elder' (zR HO401) (Kd.R_base ho0) hb)
      have HO412 := Aside0.mk (Kd.R_lower (Kd.R_new' (Kd.R_new' (Kd.R_new' (Kd.R_new' (Kd.R_new' ho1 (Kd.R_lt (zR HO367))) (Kd.R_lt (zR HO374))) (Kd.R_lt (zR HO384))) (Kd.R_lt (zR HO392))) (Kd.R_lt (zR HO404))) (below_size (zB HB)))
      replace HO367 := Aside0.mk (Kd.R_elder' (zR HO367) (Kd.R_base ho1) hb)
      replace HO374 := Aside0.mk (Kd.R_elder' (zR HO374) (Kd.R_base ho1) hb)
      replace HO384 := Aside0.mk (Kd.R_elder' (zR HO384) (Kd.R_base ho1) hb)
      replace HO392 := Aside0.mk (Kd.R_elder' (zR HO392) (Kd.R_base ho1) hb)
      replace HO404 := Aside0.mk (Kd.R_elder' (zR HO404) (Kd.R_base ho1) hb)
      replace BK357 := kB BK357 hb
      replace BK358 := kB BK358 hb
      replace BK385 := kB BK385 hb
      replace BK393 := kB BK393 hb
      replace HB := bS HB hb
      (try clear hb)
      (try clear hb2)
      (try clear hk)
      (try clear hi)
      (try clear ho0)
      (try clear ho1)
      obtain ⟨Ao79, co79, eo79⟩ := Kd.R_slice HO409.out
      (first | subst eo79 | (injection eo79 with f1_ f2_ f3_; have f4_ := f1_.symm; have f5_ := f3_.symm; clear f1_ f2_ f3_; subst f4_; subst f5_))
      obtain ⟨Ao80, co80, eo80⟩ := Kd.R_slice HO412.out
      (first | subst eo80 | (injection eo80 with f1_ f2_ f3_; have f4_ := f1_.symm; have f5_ := f3_.symm; clear f1_ f2_ f3_; subst f4_; subst f5_))
      refine hK.out _ _ ⟨bc0 BK393, bc1 BK393, bc2 BK393, bc0 BK358, bc1 BK358, bc2 BK358⟩ (fun hHeld => ?_)
      clear hK K
      refine norm_ (a' := ?_) ?_ ?_
      rotate_left
      ·show Act.put _ (some 47) _ = _
       simp only [Act.put, List.setIfInBounds_toArray, List.set_cons_zero, List.set_cons_succ, i64_w, i32_w]
       rfl
      refine one_ (i := 3) (N := some 48) #[true, true, true, true, false] rfl rfl (by kernel_rfl) (by decide) (fun K hK => ?_)
      refine goes_ Try.func14 (by kernel_rfl) rfl #[.agg #[.int .i64 t386, .slice Ao66 t387.length co66, .slice Ao67 t390.length co67], .agg #[.int .i64 t406, .slice Ao79 t407.length co79, .slice Ao80 t410.length co80]] (by rfl) rfl rfl zG ?_
      with_reducible refine (laws_eqMachine.calls k t386 _ _ t387 _ _ t390 t406 _ _ t407 _ _ t410 true _ ?side1 ?side2 ?side3 ?side4 ?side5 ?side6 ?side7 ?side8 A31.out).mono ?_
      (case side1 => repeat (first | exact (Kd.R_reads' HO389.out).2.2 | (with_reducible refine Kd.C_alloc ?_ _) | (with_reducible refine Kd.C_drewN ?_ _) | (with_reducible refine Kd.C_drew ?_)))
      (case side2 => exact (Kd.R_reads' HO389.out).2.1)
      (case side3 => repeat (first | exact (Kd.R_reads' HO392.out).2.2 | (with_reducible refine Kd.C_alloc ?_ _) | (with_reducible refine Kd.C_drewN ?_ _) | (with_reducible refine Kd.C_drew ?_)))
      (case side4 => exact (Kd.R_reads' HO392.out).2.1)
      (case side5 => repeat (first | exact (Kd.R_reads' HO409.out).2.2 | (with_reducible refine Kd.C_alloc ?_ _) | (with_reducible refine Kd.C_drewN ?_ _) | (with_reducible refine Kd.C_drew ?_)))
      (case side6 => exact (Kd.R_reads' HO409.out).2.1)
      (case side7 => repeat (first | exact (Kd.R_reads' HO412.out).2.2 | (with_reducible refine Kd.C_alloc ?_ _) | (with_reducible refine Kd.C_drewN ?_ _) | (with_reducible refine Kd.C_drew ?_)))
      (case side8 => exact (Kd.R_reads' HO412.out).2.1)
      rintro e w81 ⟨rfl, hb⟩
      refine ⟨_, rfl, ?_⟩
      replace HO364 := Aside0.mk (Kd.R_below (zR HO364) hb)
      replace HO367 := Aside0.mk (Kd.R_below (zR HO367) hb)
      replace HO371 := Aside0.mk (Kd.R_below (zR HO371) hb)
      replace HO374 := Aside0.mk (Kd.R_below (zR HO374) hb)
      replace HO377 := Aside0.mk (Kd.N_below (by (with_reducible repeat (first | apply Kd.N_alloc | apply Kd.N_drewN | apply Kd.N_drew)); exact HO377.out) hb)
      replace HO381 := Aside0.mk (Kd.R_below (zR HO381) hb)
      replace HO384 := Aside0.mk (Kd.R_below (zR HO384) hb)
      replace HO389 := Aside0.mk (Kd.R_below (zR HO389) hb)
      replace HO392 := Aside0.mk (Kd.R_below (zR HO392) hb)
      replace HO396 := Aside0.mk (Kd.S_below (by (with_reducible repeat (first | apply Kd.S_alloc | apply Kd.S_drewN | apply Kd.S_drew)); exact HO396.out) hb)
      replace HO401 := Aside0.mk (Kd.R_below (zR HO401) hb)
      replace HO404 := Aside0.mk (Kd.R_below (zR HO404) hb)
      replace HO409 := Aside0.mk (Kd.R_below (zR HO409) hb)
      replace HO412 := Aside0.mk (Kd.R_below (zR HO412) hb)
      replace BK357 := kB BK357 hb
      replace BK358 := kB BK358 hb
      replace BK385 := kB BK385 hb
      replace BK393 := kB BK393 hb
      replace HB := bS HB hb
      (try clear hb)
      (try clear hb2)
      (try clear hk)
      (try clear hi)
      refine hK.out _ _ ⟨bc0 BK393, bc1 BK393, bc2 BK393, bc0 BK358, bc1 BK358, bc2 BK358⟩ (fun hHeld => ?_)
      clear hK K
      refine norm_ (a' := ?_) ?_ ?_
      rotate_left
      ·show Act.put _ (some 48) _ = _
       simp only [Act.put, List.setIfInBounds_toArray, List.set_cons_zero, List.set_cons_succ, i64_w, i32_w]
       rfl
      refine pure_ (i := 4) (N := some 49) (v := ?_) (a' := ?_) #[true, true, true, true, true] rfl rfl (by kernel_rfl) (fun _ _ _ h => h) (Or.inl ⟨by rfl, ?_⟩) ?_ ?_
      rotate_left
      ·intro w'
       go_simp
       with_reducible rfl
      rotate_left
      ·simp only [Act.put, List.setIfInBounds_toArray, List.set_cons_zero, List.set_cons_succ, i64_w, i32_w]
       rfl
      refine done_ (by kernel_rfl) ?_
      try clear hHeld
      have hcz82_0 := bc0 BK385
      have hcz82_1 := bc1 BK385
      have hcz82_2 := bc2 BK385
      have hfz82_0 := bf BK385 0
      have hfz82_1 := bf BK385 1
      have hfz82_2 := bf BK385 2
      go_upto_region 21 with (first | ((with_reducible refine gate_callee (f := 15) rfl ?_); refine goesL_ (some 52) rfl rfl Try.func15 (by kernel_rfl) rfl #[.agg #[.int .i64 t378, .slice Ao57 t379.length co57, .slice Ao58 t382.length co58], .int .i64 1] rfl zG ?_; (with_reducible refine (laws_markMachine.calls k t378 (fun k_ => some k_ = (.slice Ao57 t379.length co57 : Value).ownBlock) (.slice Ao57 t379.length co57) t379 (fun k_ => some k_ = (.slice Ao58 t382.length co58 : Value).ownBlock) (.slice Ao58 t382.length co58) t382 1 t414 t415 t416 w _ ?side1 ?side2 ?side3 A33.out).mono ?_); (case side1 => repeat (first | (with_reducible first | exact HB.out | apply below_alloc | apply pw_below_drewN | apply below_drew1 | refine below_set ?_ GE357.out | refine below_set ?_ GE358.out | refine below_set ?_ GE385.out | refine below_set ?_ GE393.out) | exact HB.out)); (case side2 => exact Kd.R_tight rfl HO381.out); (case side3 => exact Kd.R_tight rfl HO384.out); rintro e w83 ⟨rfl, hy0, hy1, hb, hkp⟩; refine ⟨_, rfl, ?_⟩; replace BK357 := Aside0.mk (blk_kept (zK BK357) hkp (fun hs_ => Or.elim hs_ (fun e_ => (fun e_ => (Kd.R_ne HO381.out BK357.out (by decide)) e_) e_) (fun e_ => (fun e_ => (Kd.R_ne HO384.out BK357.out (by decide)) e_) e_))); replace BK358 := Aside0.mk (blk_kept (zK BK358) hkp (fun hs_ => Or.elim hs_ (fun e_ => (fun e_ => (Kd.R_ne HO381.out BK358.out (by decide)) e_) e_) (fun e_ => (fun e_ => (Kd.R_ne HO384.out BK358.out (by decide)) e_) e_))); replace HO364 := Aside0.mk (Kd.R_mono (ok' := fun k_ => some k_ ≠ (.slice Ao48 t369.length co48 : Value).ownBlock ∧ some k_ ≠ (.slice Ao57 t379.length co57 : Value).ownBlock ∧ some k_ ≠ (.slice Ao66 t387.length co66 : Value).ownBlock ∧ some k_ ≠ (.slice Ao74 t399.length co74 : Value).ownBlock ∧ some k_ ≠ (.slice Ao79 t407.length co79 : Value).ownBlock) (Kd.R_keptB ((Kd.R_apart' HO364.out (Kd.R_typed HO384.out) (by decide))) hkp (fun k_ hk_ hs_ => Or.elim hs_ (fun e_ => ne_pick hk_ e_) (fun e_ => ne_pick hk_ e_))) (fun k_ hk_ => ⟨(pick hk_), (pick hk_), (pick hk_), (pick hk_), (pick hk_)⟩)); replace HO367 := Aside0.mk (Kd.R_mono (ok' := fun k_ => some k_ ≠ (.slice Ao49 t372.length co49 : Value).ownBlock ∧ some k_ ≠ (.slice Ao58 t382.length co58 : Value).ownBlock ∧ some k_ ≠ (.slice Ao67 t390.length co67 : Value).ownBlock ∧ some k_ ≠ (.slice Ao75 t402.length co75 : Value).ownBlock ∧ some k_ ≠ (.slice Ao80 t410.length co80 : Value).ownBlock) (Kd.R_keptB ((Kd.R_apart' HO367.out (Kd.R_typed HO381.out) (by decide))) hkp (fun k_ hk_ hs_ => Or.elim hs_ (fun e_ => ne_pick hk_ e_) (fun e_ => ne_pick hk_ e_))) (fun k_ hk_ => ⟨(pick hk_), (pick hk_), (pick hk_), (pick hk_), (pick hk_)⟩)); replace HO371 := Aside0.mk (Kd.R_mono (ok' := fun k_ => some k_ ≠ (.slice Ao46 t362.length co46 : Value).ownBlock ∧ some k_ ≠ (.slice Ao57 t379.length co57 : Value).ownBlock ∧ some k_ ≠ (.slice Ao66 t387.length co66 : Value).ownBlock ∧ some k_ ≠ (.slice Ao74 t399.length co74 : Value).ownBlock ∧ some k_ ≠ (.slice Ao79 t407.length co79 : Value).ownBlock) (Kd.R_keptB ((Kd.R_apart' HO371.out (Kd.R_typed HO384.out) (by decide))) hkp (fun k_ hk_ hs_ => Or.elim hs_ (fun e_ => ne_pick hk_ e_) (fun e_ => ne_pick hk_ e_))) (fun k_ hk_ => ⟨(pick hk_), (pick hk_), (pick hk_), (pick hk_), (pick hk_)⟩)); replace HO374 := Aside0.mk (Kd.R_mono (ok' := fun k_ => some k_ ≠ (.slice Ao47 t365.length co47 : Value).ownBlock ∧ some k_ ≠ (.slice Ao58 t382.length co58 : Value).ownBlock ∧ some k_ ≠ (.slice Ao67 t390.length co67 : Value).ownBlock ∧ some k_ ≠ (.slice Ao75 t402.length co75 : Value).ownBlock ∧ some k_ ≠ (.slice Ao80 t410.length co80 : Value).ownBlock) (Kd.R_keptB ((Kd.R_apart' HO374.out (Kd.R_typed HO381.out) (by decide))) hkp (fun k_ hk_ hs_ => Or.elim hs_ (fun e_ => ne_pick hk_ e_) (fun e_ => ne_pick hk_ e_))) (fun k_ hk_ => ⟨(pick hk_), (pick hk_), (pick hk_), (pick hk_), (pick hk_)⟩)); replace HO377 := Aside0.mk (Kd.N_mono (ok' := fun k_ => some k_ ≠ (.slice Ao46 t362.length co46 : Value).ownBlock ∧ some k_ ≠ (.slice Ao47 t365.length co47 : Value).ownBlock ∧ some k_ ≠ (.slice Ao48 t369.length co48 : Value).ownBlock ∧ some k_ ≠ (.slice Ao49 t372.length co49 : Value).ownBlock ∧ some k_ ≠ (.slice Ao57 t379.length co57 : Value).ownBlock ∧ some k_ ≠ (.slice Ao58 t382.length co58 : Value).ownBlock ∧ some k_ ≠ (.slice Ao66 t387.length co66 : Value).ownBlock ∧ some k_ ≠ (.slice Ao67 t390.length co67 : Value).ownBlock ∧ k_ < lo_ ∧ some k_ ≠ (.slice Ao74 t399.length co74 : Value).ownBlock ∧ some k_ ≠ (.slice Ao75 t402.length co75 : Value).ownBlock ∧ some k_ ≠ (.slice Ao79 t407.length co79 : Value).ownBlock ∧ some k_ ≠ (.slice Ao80 t410.length co80 : Value).ownBlock ∧ k_ ≠ gb357 ∧ k_ ≠ gb358 ∧ k_ ≠ gb385 ∧ k_ ≠ gb393) (Kd.N_keptB (HO377.out) hkp (fun k_ hk_ hs_ => Or.elim hs_ (fun e_ => ne_pick hk_ e_) (fun e_ => ne_pick hk_ e_))) (fun k_ hk_ => ⟨(pick hk_), (pick hk_), (pick hk_), (pick hk_), (pick hk_), (pick hk_), (pick hk_), (pick hk_), (pick hk_), (pick hk_), (pick hk_), (pick hk_), (pick hk_), (pick hk_), (pick hk_), (pick hk_), (pick hk_)⟩)); replace BK385 := Aside0.mk (blk_kept (zK BK385) hkp (fun hs_ => Or.elim hs_ (fun e_ => (fun e_ => (Kd.R_ne HO381.out BK385.out (by decide)) e_) e_) (fun e_ => (fun e_ => (Kd.R_ne HO384.out BK385.out (by decide)) e_) e_))); replace HO389 := Aside0.mk (Kd.R_mono (ok' := fun k_ => some k_ ≠ (.slice Ao46 t362.length co46 : Value).ownBlock ∧ some k_ ≠ (.slice Ao48 t369.length co48 : Value).ownBlock ∧ some k_ ≠ (.slice Ao57 t379.length co57 : Value).ownBlock ∧ some k_ ≠ (.slice Ao74 t399.length co74 : Value).ownBlock ∧ some k_ ≠ (.slice Ao79 t407.length co79 : Value).ownBlock) (Kd.R_keptB ((Kd.R_apart' HO389.out (Kd.R_typed HO384.out) (by decide))) hkp (fun k_ hk_ hs_ => Or.elim hs_ (fun e_ => ne_pick hk_ e_) (fun e_ => ne_pick hk_ e_))) (fun k_ hk_ => ⟨(pick hk_), (pick hk_), (pick hk_), (pick hk_), (pick hk_)⟩)); replace HO392 := Aside0.mk (Kd.R_mono (ok' := fun k_ => some k_ ≠ (.slice Ao47 t365.length co47 : Value).ownBlock ∧ some k_ ≠ (.slice Ao49 t372.length co49 : Value).ownBlock ∧ some k_ ≠ (.slice Ao58 t382.length co58 : Value).ownBlock ∧ some k_ ≠ (.slice Ao75 t402.length co75 : Value).ownBlock ∧ some k_ ≠ (.slice Ao80 t410.length co80 : Value).ownBlock) (Kd.R_keptB ((Kd.R_apart' HO392.out (Kd.R_typed HO381.out) (by decide))) hkp (fun k_ hk_ hs_ => Or.elim hs_ (fun e_ => ne_pick hk_ e_) (fun e_ => ne_pick hk_ e_))) (fun k_ hk_ => ⟨(pick hk_), (pick hk_), (pick hk_), (pick hk_), (pick hk_)⟩)); replace BK393 := Aside0.mk (blk_kept (zK BK393) hkp (fun hs_ => Or.elim hs_ (fun e_ => (fun e_ => (Kd.R_ne HO381.out BK393.out (by decide)) e_) e_) (fun e_ => (fun e_ => (Kd.R_ne HO384.out BK393.out (by decide)) e_) e_))); replace HO396 := Aside0.mk (Kd.S_mono (ok' := fun k_ => some k_ ≠ (.slice Ao46 t362.length co46 : Value).ownBlock ∧ some k_ ≠ (.slice Ao47 t365.length co47 : Value).ownBlock ∧ some k_ ≠ (.slice Ao48 t369.length co48 : Value).ownBlock ∧ some k_ ≠ (.slice Ao49 t372.length co49 : Value).ownBlock ∧ lo_ ≤ k_ ∧ some k_ ≠ (.slice Ao57 t379.length co57 : Value).ownBlock ∧ some k_ ≠ (.slice Ao58 t382.length co58 : Value).ownBlock ∧ some k_ ≠ (.slice Ao66 t387.length co66 : Value).ownBlock ∧ some k_ ≠ (.slice Ao67 t390.length co67 : Value).ownBlock ∧ some k_ ≠ (.slice Ao74 t399.length co74 : Value).ownBlock ∧ some k_ ≠ (.slice Ao75 t402.length co75 : Value).ownBlock ∧ some k_ ≠ (.slice Ao79 t407.length co79 : Value).ownBlock ∧ some k_ ≠ (.slice Ao80 t410.length co80 : Value).ownBlock ∧ k_ ≠ gb357 ∧ k_ ≠ gb358 ∧ k_ ≠ gb385 ∧ k_ ≠ gb393) (Kd.S_keptB (HO396.out) hkp (fun k_ hk_ hs_ => Or.elim hs_ (fun e_ => ne_pick hk_ e_) (fun e_ => ne_pick hk_ e_))) (fun k_ hk_ => ⟨(pick hk_), (pick hk_), (pick hk_), (pick hk_), (pick hk_), (pick hk_), (pick hk_), (pick hk_), (pick hk_), (pick hk_), (pick hk_), (pick hk_), (pick hk_), (pick hk_), (pick hk_), (pick hk_), (pick hk_)⟩)); replace HO401 := Aside0.mk (Kd.R_mono (ok' := fun k_ => some k_ ≠ (.slice Ao46 t362.length co46 : Value).ownBlock ∧ some k_ ≠ (.slice Ao48 t369.length co48 : Value).ownBlock ∧ some k_ ≠ (.slice Ao57 t379.length co57 : Value).ownBlock ∧ some k_ ≠ (.slice Ao66 t387.length co66 : Value).ownBlock ∧ some k_ ≠ (.slice Ao79 t407.length co79 : Value).ownBlock) (Kd.R_keptB ((Kd.R_apart' HO401.out (Kd.R_typed HO384.out) (by decide))) hkp (fun k_ hk_ hs_ => Or.elim hs_ (fun e_ => ne_pick hk_ e_) (fun e_ => ne_pick hk_ e_))) (fun k_ hk_ => ⟨(pick hk_), (pick hk_), (pick hk_), (pick hk_), (pick hk_)⟩)); replace HO404 := Aside0.mk (Kd.R_mono (ok' := fun k_ => some k_ ≠ (.slice Ao47 t365.length co47 : Value).ownBlock ∧ some k_ ≠ (.slice Ao49 t372.length co49 : Value).ownBlock ∧ some k_ ≠ (.slice Ao58 t382.length co58 : Value).ownBlock ∧ some k_ ≠ (.slice Ao67 t390.length co67 : Value).ownBlock ∧ some k_ ≠ (.slice Ao80 t410.length co80 : Value).ownBlock) (Kd.R_keptB ((Kd.R_apart' HO404.out (Kd.R_typed HO381.out) (by decide))) hkp (fun k_ hk_ hs_ => Or.elim hs_ (fun e_ => ne_pick hk_ e_) (fun e_ => ne_pick hk_ e_))) (fun k_ hk_ => ⟨(pick hk_), (pick hk_), (pick hk_), (pick hk_), (pick hk_)⟩)); replace HO409 := Aside0.mk (Kd.R_mono (ok' := fun k_ => some k_ ≠ (.slice Ao46 t362.length co46 : Value).ownBlock ∧ some k_ ≠ (.slice Ao48 t369.length co48 : Value).ownBlock ∧ some k_ ≠ (.slice Ao57 t379.length co57 : Value).ownBlock ∧ some k_ ≠ (.slice Ao66 t387.length co66 : Value).ownBlock ∧ some k_ ≠ (.slice Ao74 t399.length co74 : Value).ownBlock) (Kd.R_keptB ((Kd.R_apart' HO409.out (Kd.R_typed HO384.out) (by decide))) hkp (fun k_ hk_ hs_ => Or.elim hs_ (fun e_ => ne_pick hk_ e_) (fun e_ => ne_pick hk_ e_))) (fun k_ hk_ => ⟨(pick hk_), (pick hk_), (pick hk_), (pick hk_), (pick hk_)⟩)); replace HO384 := Aside0.mk (Kd.R_reok rfl hy1 (fun k_ e_ => HO384.out.1 k_ e_)); replace HO412 := Aside0.mk (Kd.R_mono (ok' := fun k_ => some k_ ≠ (.slice Ao47 t365.length co47 : Value).ownBlock ∧ some k_ ≠ (.slice Ao49 t372.length co49 : Value).ownBlock ∧ some k_ ≠ (.slice Ao58 t382.length co58 : Value).ownBlock ∧ some k_ ≠ (.slice Ao67 t390.length co67 : Value).ownBlock ∧ some k_ ≠ (.slice Ao75 t402.length co75 : Value).ownBlock) (Kd.R_keptB ((Kd.R_apart' HO412.out (Kd.R_typed HO381.out) (by decide))) hkp (fun k_ hk_ hs_ => Or.elim hs_ (fun e_ => ne_pick hk_ e_) (fun e_ => ne_pick hk_ e_))) (fun k_ hk_ => ⟨(pick hk_), (pick hk_), (pick hk_), (pick hk_), (pick hk_)⟩)); replace HO381 := Aside0.mk (Kd.R_reok rfl hy0 (fun k_ e_ => HO381.out.1 k_ e_)); replace HB := Aside0.mk (hb); (try clear hb); (try clear hkp); (try clear hy0); (try clear hy1); have hcz84_0 := bc0 BK393; have hcz84_1 := bc1 BK393; have hcz84_2 := bc2 BK393; have hfz84_0 := bf BK393 0; have hfz84_1 := bf BK393 1; have hfz84_2 := bf BK393 2) | ((with_reducible refine gate_callee (f := 15) rfl ?_); refine goesL_ (some 55) rfl rfl Try.func15 (by kernel_rfl) rfl #[.agg #[.int .i64 t386, .slice Ao66 t387.length co66, .slice Ao67 t390.length co67], .int .i64 t414] rfl zG ?_; (with_reducible refine (laws_markMachine.calls k t386 (fun k_ => some k_ = (.slice Ao66 t387.length co66 : Value).ownBlock) (.slice Ao66 t387.length co66) t387 (fun k_ => some k_ = (.slice Ao67 t390.length co67 : Value).ownBlock) (.slice Ao67 t390.length co67) t390 t414 t417 t418 t419 w _ ?side1 ?side2 ?side3 A34.out).mono ?_); (case side1 => repeat (first | (with_reducible first | exact HB.out | apply below_alloc | apply pw_below_drewN | apply below_drew1 | refine below_set ?_ GE357.out | refine below_set ?_ GE358.out | refine below_set ?_ GE385.out | refine below_set ?_ GE393.out) | exact HB.out)); (case side2 => exact Kd.R_tight rfl HO389.out); (case side3 => exact Kd.R_tight rfl HO392.out); rintro e w85 ⟨rfl, hy0, hy1, hb, hkp⟩; refine ⟨_, rfl, ?_⟩; replace BK357 := Aside0.mk (blk_kept (zK BK357) hkp (fun hs_ => Or.elim hs_ (fun e_ => (fun e_ => (Kd.R_ne HO389.out BK357.out (by decide)) e_) e_) (fun e_ => (fun e_ => (Kd.R_ne HO392.out BK357.out (by decide)) e_) e_))); replace BK358 := Aside0.mk (blk_kept (zK BK358) hkp (fun hs_ => Or.elim hs_ (fun e_ => (fun e_ => (Kd.R_ne HO389.out BK358.out (by decide)) e_) e_) (fun e_ => (fun e_ => (Kd.R_ne HO392.out BK358.out (by decide)) e_) e_))); replace HO364 := Aside0.mk (Kd.R_mono (ok' := fun k_ => some k_ ≠ (.slice Ao48 t369.length co48 : Value).ownBlock ∧ some k_ ≠ (.slice Ao57 t379.length co57 : Value).ownBlock ∧ some k_ ≠ (.slice Ao66 t387.length co66 : Value).ownBlock ∧ some k_ ≠ (.slice Ao74 t399.length co74 : Value).ownBlock ∧ some k_ ≠ (.slice Ao79 t407.length co79 : Value).ownBlock) (Kd.R_keptB ((Kd.R_apart' HO364.out (Kd.R_typed HO392.out) (by decide))) hkp (fun k_ hk_ hs_ => Or.elim hs_ (fun e_ => ne_pick hk_ e_) (fun e_ => ne_pick hk_ e_))) (fun k_ hk_ => ⟨(pick hk_), (pick hk_), (pick hk_), (pick hk_), (pick hk_)⟩)); replace HO367 := Aside0.mk (Kd.R_mono (ok' := fun k_ => some k_ ≠ (.slice Ao49 t372.length co49 : Value).ownBlock ∧ some k_ ≠ (.slice Ao58 t382.length co58 : Value).ownBlock ∧ some k_ ≠ (.slice Ao67 t390.length co67 : Value).ownBlock ∧ some k_ ≠ (.slice Ao75 t402.length co75 : Value).ownBlock ∧ some k_ ≠ (.slice Ao80 t410.length co80 : Value).ownBlock) (Kd.R_keptB ((Kd.R_apart' HO367.out (Kd.R_typed HO389.out) (by decide))) hkp (fun k_ hk_ hs_ => Or.elim hs_ (fun e_ => ne_pick hk_ e_) (fun e_ => ne_pick hk_ e_))) (fun k_ hk_ => ⟨(pick hk_), (pick hk_), (pick hk_), (pick hk_), (pick hk_)⟩)); replace HO371 := Aside0.mk (Kd.R_mono (ok' := fun k_ => some k_ ≠ (.slice Ao46 t362.length co46 : Value).ownBlock ∧ some k_ ≠ (.slice Ao57 t379.length co57 : Value).ownBlock ∧ some k_ ≠ (.slice Ao66 t387.length co66 : Value).ownBlock ∧ some k_ ≠ (.slice Ao74 t399.length co74 : Value).ownBlock ∧ some k_ ≠ (.slice Ao79 t407.length co79 : Value).ownBlock) (Kd.R_keptB ((Kd.R_apart' HO371.out (Kd.R_typed HO392.out) (by decide))) hkp (fun k_ hk_ hs_ => Or.elim hs_ (fun e_ => ne_pick hk_ e_) (fun e_ => ne_pick hk_ e_))) (fun k_ hk_ => ⟨(pick hk_), (pick hk_), (pick hk_), (pick hk_), (pick hk_)⟩)); replace HO374 := Aside0.mk (Kd.R_mono (ok' := fun k_ => some k_ ≠ (.slice Ao47 t365.length co47 : Value).ownBlock ∧ some k_ ≠ (.slice Ao58 t382.length co58 : Value).ownBlock ∧ some k_ ≠ (.slice Ao67 t390.length co67 : Value).ownBlock ∧ some k_ ≠ (.slice Ao75 t402.length co75 : Value).ownBlock ∧ some k_ ≠ (.slice Ao80 t410.length co80 : Value).ownBlock) (Kd.R_keptB ((Kd.R_apart' HO374.out (Kd.R_typed HO389.out) (by decide))) hkp (fun k_ hk_ hs_ => Or.elim hs_ (fun e_ => ne_pick hk_ e_) (fun e_ => ne_pick hk_ e_))) (fun k_ hk_ => ⟨(pick hk_), (pick hk_), (pick hk_), (pick hk_), (pick hk_)⟩)); replace HO377 := Aside0.mk (Kd.N_mono (ok' := fun k_ => some k_ ≠ (.slice Ao46 t362.length co46 : Value).ownBlock ∧ some k_ ≠ (.slice Ao47 t365.length co47 : Value).ownBlock ∧ some k_ ≠ (.slice Ao48 t369.length co48 : Value).ownBlock ∧ some k_ ≠ (.slice Ao49 t372.length co49 : Value).ownBlock ∧ some k_ ≠ (.slice Ao57 t379.length co57 : Value).ownBlock ∧ some k_ ≠ (.slice Ao58 t382.length co58 : Value).ownBlock ∧ some k_ ≠ (.slice Ao66 t387.length co66 : Value).ownBlock ∧ some k_ ≠ (.slice Ao67 t390.length co67 : Value).ownBlock ∧ k_ < lo_ ∧ some k_ ≠ (.slice Ao74 t399.length co74 : Value).ownBlock ∧ some k_ ≠ (.slice Ao75 t402.length co75 : Value).ownBlock ∧ some k_ ≠ (.slice Ao79 t407.length co79 : Value).ownBlock ∧ some k_ ≠ (.slice Ao80 t410.length co80 : Value).ownBlock ∧ k_ ≠ gb357 ∧ k_ ≠ gb358 ∧ k_ ≠ gb385 ∧ k_ ≠ gb393) (Kd.N_keptB (HO377.out) hkp (fun k_ hk_ hs_ => Or.elim hs_ (fun e_ => ne_pick hk_ e_) (fun e_ => ne_pick hk_ e_))) (fun k_ hk_ => ⟨(pick hk_), (pick hk_), (pick hk_), (pick hk_), (pick hk_), (pick hk_), (pick hk_), (pick hk_), (pick hk_), (pick hk_), (pick hk_), (pick hk_), (pick hk_), (pick hk_), (pick hk_), (pick hk_), (pick hk_)⟩)); replace HO381 := Aside0.mk (Kd.R_mono (ok' := fun k_ => some k_ ≠ (.slice Ao46 t362.length co46 : Value).ownBlock ∧ some k_ ≠ (.slice Ao48 t369.length co48 : Value).ownBlock ∧ some k_ ≠ (.slice Ao66 t387.length co66 : Value).ownBlock ∧ some k_ ≠ (.slice Ao74 t399.length co74 : Value).ownBlock ∧ some k_ ≠ (.slice Ao79 t407.length co79 : Value).ownBlock) (Kd.R_keptB ((Kd.R_apart' HO381.out (Kd.R_typed HO392.out) (by decide))) hkp (fun k_ hk_ hs_ => Or.elim hs_ (fun e_ => ne_pick hk_ e_) (fun e_ => ne_pick hk_ e_))) (fun k_ hk_ => ⟨(pick hk_), (pick hk_), (pick hk_), (pick hk_), (pick hk_)⟩)); replace HO384 := Aside0.mk (Kd.R_mono (ok' := fun k_ => some k_ ≠ (.slice Ao47 t365.length co47 : Value).ownBlock ∧ some k_ ≠ (.slice Ao49 t372.length co49 : Value).ownBlock ∧ some k_ ≠ (.slice Ao67 t390.length co67 : Value).ownBlock ∧ some k_ ≠ (.slice Ao75 t402.length co75 : Value).ownBlock ∧ some k_ ≠ (.slice Ao80 t410.length co80 : Value).ownBlock) (Kd.R_keptB ((Kd.R_apart' HO384.out (Kd.R_typed HO389.out) (by decide))) hkp (fun k_ hk_ hs_ => Or.elim hs_ (fun e_ => ne_pick hk_ e_) (fun e_ => ne_pick hk_ e_))) (fun k_ hk_ => ⟨(pick hk_), (pick hk_), (pick hk_), (pick hk_), (pick hk_)⟩)); replace BK385 := Aside0.mk (blk_kept (zK BK385) hkp (fun hs_ => Or.elim hs_ (fun e_ => (fun e_ => (Kd.R_ne HO389.out BK385.out (by decide)) e_) e_) (fun e_ => (fun e_ => (Kd.R_ne HO392.out BK385.out (by decide)) e_) e_))); replace BK393 := Aside0.mk (blk_kept (zK BK393) hkp (fun hs_ => Or.elim hs_ (fun e_ => (fun e_ => (Kd.R_ne HO389.out BK393.out (by decide)) e_) e_) (fun e_ => (fun e_ => (Kd.R_ne HO392.out BK393.out (by decide)) e_) e_))); replace HO396 := Aside0.mk (Kd.S_mono (ok' := fun k_ => some k_ ≠ (.slice Ao46 t362.length co46 : Value).ownBlock ∧ some k_ ≠ (.slice Ao47 t365.length co47 : Value).ownBlock ∧ some k_ ≠ (.slice Ao48 t369.length co48 : Value).ownBlock ∧ some k_ ≠ (.slice Ao49 t372.length co49 : Value).ownBlock ∧ lo_ ≤ k_ ∧ some k_ ≠ (.slice Ao57 t379.length co57 : Value).ownBlock ∧ some k_ ≠ (.slice Ao58 t382.length co58 : Value).ownBlock ∧ some k_ ≠ (.slice Ao66 t387.length co66 : Value).ownBlock ∧ some k_ ≠ (.slice Ao67 t390.length co67 : Value).ownBlock ∧ some k_ ≠ (.slice Ao74 t399.length co74 : Value).ownBlock ∧ some k_ ≠ (.slice Ao75 t402.length co75 : Value).ownBlock ∧ some k_ ≠ (.slice Ao79 t407.length co79 : Value).ownBlock ∧ some k_ ≠ (.slice Ao80 t410.length co80 : Value).ownBlock ∧ k_ ≠ gb357 ∧ k_ ≠ gb358 ∧ k_ ≠ gb385 ∧ k_ ≠ gb393) (Kd.S_keptB (HO396.out) hkp (fun k_ hk_ hs_ => Or.elim hs_ (fun e_ => ne_pick hk_ e_) (fun e_ => ne_pick hk_ e_))) (fun k_ hk_ => ⟨(pick hk_), (pick hk_), (pick hk_), (pick hk_), (pick hk_), (pick hk_), (pick hk_), (pick hk_), (pick hk_), (pick hk_), (pick hk_), (pick hk_), (pick hk_), (pick hk_), (pick hk_), (pick hk_), (pick hk_)⟩)); replace HO401 := Aside0.mk (Kd.R_mono (ok' := fun k_ => some k_ ≠ (.slice Ao46 t362.length co46 : Value).ownBlock ∧ some k_ ≠ (.slice Ao48 t369.length co48 : Value).ownBlock ∧ some k_ ≠ (.slice Ao57 t379.length co57 : Value).ownBlock ∧ some k_ ≠ (.slice Ao66 t387.length co66 : Value).ownBlock ∧ some k_ ≠ (.slice Ao79 t407.length co79 : Value).ownBlock) (Kd.R_keptB ((Kd.R_apart' HO401.out (Kd.R_typed HO392.out) (by decide))) hkp (fun k_ hk_ hs_ => Or.elim hs_ (fun e_ => ne_pick hk_ e_) (fun e_ => ne_pick hk_ e_))) (fun k_ hk_ => ⟨(pick hk_), (pick hk_), (pick hk_), (pick hk_), (pick hk_)⟩)); replace HO404 := Aside0.mk (Kd.R_mono (ok' := fun k_ => some k_ ≠ (.slice Ao47 t365.length co47 : Value).ownBlock ∧ some k_ ≠ (.slice Ao49 t372.length co49 : Value).ownBlock ∧ some k_ ≠ (.slice Ao58 t382.length co58 : Value).ownBlock ∧ some k_ ≠ (.slice Ao67 t390.length co67 : Value).ownBlock ∧ some k_ ≠ (.slice Ao80 t410.length co80 : Value).ownBlock) (Kd.R_keptB ((Kd.R_apart' HO404.out (Kd.R_typed HO389.out) (by decide))) hkp (fun k_ hk_ hs_ => Or.elim hs_ (fun e_ => ne_pick hk_ e_) (fun e_ => ne_pick hk_ e_))) (fun k_ hk_ => ⟨(pick hk_), (pick hk_), (pick hk_), (pick hk_), (pick hk_)⟩)); replace HO409 := Aside0.mk (Kd.R_mono (ok' := fun k_ => some k_ ≠ (.slice Ao46 t362.length co46 : Value).ownBlock ∧ some k_ ≠ (.slice Ao48 t369.length co48 : Value).ownBlock ∧ some k_ ≠ (.slice Ao57 t379.length co57 : Value).ownBlock ∧ some k_ ≠ (.slice Ao66 t387.length co66 : Value).ownBlock ∧ some k_ ≠ (.slice Ao74 t399.length co74 : Value).ownBlock) (Kd.R_keptB ((Kd.R_apart' HO409.out (Kd.R_typed HO392.out) (by decide))) hkp (fun k_ hk_ hs_ => Or.elim hs_ (fun e_ => ne_pick hk_ e_) (fun e_ => ne_pick hk_ e_))) (fun k_ hk_ => ⟨(pick hk_), (pick hk_), (pick hk_), (pick hk_), (pick hk_)⟩)); replace HO392 := Aside0.mk (Kd.R_reok rfl hy1 (fun k_ e_ => HO392.out.1 k_ e_)); replace HO412 := Aside0.mk (Kd.R_mono (ok' := fun k_ => some k_ ≠ (.slice Ao47 t365.length co47 : Value).ownBlock ∧ some k_ ≠ (.slice Ao49 t372.length co49 : Value).ownBlock ∧ some k_ ≠ (.slice Ao58 t382.length co58 : Value).ownBlock ∧ some k_ ≠ (.slice Ao67 t390.length co67 : Value).ownBlock ∧ some k_ ≠ (.slice Ao75 t402.length co75 : Value).ownBlock) (Kd.R_keptB ((Kd.R_apart' HO412.out (Kd.R_typed HO389.out) (by decide))) hkp (fun k_ hk_ hs_ => Or.elim hs_ (fun e_ => ne_pick hk_ e_) (fun e_ => ne_pick hk_ e_))) (fun k_ hk_ => ⟨(pick hk_), (pick hk_), (pick hk_), (pick hk_), (pick hk_)⟩)); replace HO389 := Aside0.mk (Kd.R_reok rfl hy0 (fun k_ e_ => HO389.out.1 k_ e_)); replace HB := Aside0.mk (hb); (try clear hb); (try clear hkp); (try clear hy0); (try clear hy1)))
      (try simp only [Act.put, List.setIfInBounds_toArray, List.set_cons_zero, List.set_cons_succ])
      go_cut [63] (fun v63 wc => ∃ (kq : Nat) (x63_34 : Bool), v63 = .bool x63_34 ∧ Aside0 (laws_FnExactPairsOf.j0 kq t375 t394 x63_34 a0_0 l0_1 l0_2 a1_0 l1_1 l1_2 = some r) ∧ Aside0 (kq ≤ k) ∧ Aside0 (Kd.N (Kd.slice 3 (Kd.int .i64)) 38 wc w.heap.size (fun k_ => k_ < lo_ ∧ some k_ ≠ ((.slice Ao57 t379.length co57) : Value).ownBlock ∧ some k_ ≠ ((.slice Ao58 t382.length co58) : Value).ownBlock ∧ some k_ ≠ ((.slice Ao66 t387.length co66) : Value).ownBlock ∧ some k_ ≠ ((.slice Ao67 t390.length co67) : Value).ownBlock ∧ k_ ≠ gb357 ∧ k_ ≠ gb358 ∧ k_ ≠ gb385 ∧ k_ ≠ gb393) (.slice Ao71 t375.length co71) t375) ∧ Aside0 (Kd.S (Kd.slice 3 (Kd.int .i64)) 38 wc w.heap.size (fun k_ => lo_ ≤ k_ ∧ some k_ ≠ ((.slice Ao57 t379.length co57) : Value).ownBlock ∧ some k_ ≠ ((.slice Ao58 t382.length co58) : Value).ownBlock ∧ some k_ ≠ ((.slice Ao66 t387.length co66) : Value).ownBlock ∧ some k_ ≠ ((.slice Ao67 t390.length co67) : Value).ownBlock ∧ k_ ≠ gb357 ∧ k_ ≠ gb358 ∧ k_ ≠ gb385 ∧ k_ ≠ gb393) (.slice Ao70 t394.length co70) t394) ∧ Aside0 (Kd.R Kd.bool 4 wc w.heap.size (fun k_ => some k_ ≠ ((.slice Ao66 t387.length co66) : Value).ownBlock) (.slice Ao57 t379.length co57) t415) ∧ Aside0 (Kd.R k64 64 wc w.heap.size (fun k_ => some k_ ≠ ((.slice Ao67 t390.length co67) : Value).ownBlock) (.slice Ao58 t382.length co58) t416) ∧ Aside0 (Kd.R Kd.bool 4 wc w.heap.size (fun k_ => some k_ ≠ ((.slice Ao57 t379.length co57) : Value).ownBlock) (.slice Ao66 t387.length co66) t418) ∧ Aside0 (Kd.R k64 64 wc w.heap.size (fun k_ => some k_ ≠ ((.slice Ao58 t382.length co58) : Value).ownBlock) (.slice Ao67 t390.length co67) t419) ∧ Aside0 (wc.heap[gb357]? = some (.cells #[.int .i64 a0_0, (.slice A0_1 l0_1.length c0_1), (.slice A0_2 l0_2.length c0_2)] 25 (0, 0))) ∧ Aside0 (wc.heap[gb358]? = some (.cells #[.int .i64 a1_0, (.slice A1_1 l1_1.length c1_1), (.slice A1_2 l1_2.length c1_2)] 25 (0, 0))) ∧ Aside0 (wc.heap[gb385]? = some (.cells #[.int .i64 t378, (.slice Ao57 t379.length co57), (.slice Ao58 t382.length co58)] 31 (0, 0))) ∧ Aside0 (wc.heap[gb393]? = some (.cells #[.int .i64 t386, (.slice Ao66 t387.length co66), (.slice Ao67 t390.length co67)] 31 (0, 0))) ∧ Aside0 (Below w.heap.size w wc))
      case first =>
       have H := HC35.out
       clear HC35
       by_cases c86 : t417 < 0
       ·rw [if_pos c86] at H
        have c86b0 : decide (t417 < 0) = true := decide_eq_true c86
        clear c86
        (first | rw [c86b0] | (simp only [i64_w, i32_w]; rw [c86b0]) | skip)
        have H' := Aside0.mk H
        clear H
        go_wp2
        go_meet
        case rel => exact ⟨_, (true), zF, H', ⟨by first | omega | exact Nat.le_refl _⟩, ⟨by (with_reducible repeat (first | apply Kd.N_alloc | apply Kd.N_drewN | apply Kd.N_drew)); exact Kd.N_mono HO377.out (fun _ hk => ⟨hk.2.2.2.2.2.2.2.2.1, ⟨hk.2.2.2.2.1, ⟨hk.2.2.2.2.2.1, ⟨hk.2.2.2.2.2.2.1, ⟨hk.2.2.2.2.2.2.2.1, ⟨hk.2.2.2.2.2.2.2.2.2.2.2.2.2.1, ⟨hk.2.2.2.2.2.2.2.2.2.2.2.2.2.2.1, ⟨hk.2.2.2.2.2.2.2.2.2.2.2.2.2.2.2.1, hk.2.2.2.2.2.2.2.2.2.2.2.2.2.2.2.2⟩⟩⟩⟩⟩⟩⟩⟩)⟩, ⟨by (with_reducible repeat (first | apply Kd.N_alloc | apply Kd.N_drewN | apply Kd.N_drew)); exact Kd.S_mono HO396.out (fun _ hk => ⟨hk.2.2.2.2.1, ⟨hk.2.2.2.2.2.1, ⟨hk.2.2.2.2.2.2.1, ⟨hk.2.2.2.2.2.2.2.1, ⟨hk.2.2.2.2.2.2.2.2.1, ⟨hk.2.2.2.2.2.2.2.2.2.2.2.2.2.1, ⟨hk.2.2.2.2.2.2.2.2.2.2.2.2.2.2.1, ⟨hk.2.2.2.2.2.2.2.2.2.2.2.2.2.2.2.1, hk.2.2.2.2.2.2.2.2.2.2.2.2.2.2.2.2⟩⟩⟩⟩⟩⟩⟩⟩)⟩, ⟨by (with_reducible repeat (first | apply Kd.R_alloc | apply Kd.R_drewN | apply Kd.R_drew)); exact Kd.R_mono HO381.out (fun _ hk => hk.2.2.1)⟩, ⟨by (with_reducible repeat (first | apply Kd.R_alloc | apply Kd.R_drewN | apply Kd.R_drew)); exact Kd.R_mono HO384.out (fun _ hk => hk.2.2.1)⟩, ⟨by (with_reducible repeat (first | apply Kd.R_alloc | apply Kd.R_drewN | apply Kd.R_drew)); exact Kd.R_mono HO389.out (fun _ hk => hk.2.2.1)⟩, ⟨by (with_reducible repeat (first | apply Kd.R_alloc | apply Kd.R_drewN | apply Kd.R_drew)); exact Kd.R_mono HO392.out (fun _ hk => hk.2.2.1)⟩, ⟨zK BK357⟩, ⟨zK BK358⟩, ⟨zK BK385⟩, ⟨zK BK393⟩, ⟨zB HB⟩⟩
       ·rw [if_neg c86] at H
        have c86b0 : decide (t417 < 0) = false := decide_eq_false c86
        clear c86
        (first | rw [c86b0] | (simp only [i64_w, i32_w]; rw [c86b0]) | skip)
        obtain ⟨t420, A87, H⟩ := bindS H
        have H' := Aside0.mk H
        clear H
        go_wp2_with (first | (go_at_call 13; (with_reducible refine (laws_eqIntSS.calls k _ _ t394 _ _ t375 t420 _ ?side1 ?side2 ?side3 ?side4 A87.out).mono ?_); (case side1 => repeat (first | exact (Kd.S_reads' HO396.out).2.2 | (with_reducible refine Kd.C_alloc ?_ _) | (with_reducible refine Kd.C_drewN ?_ _) | (with_reducible refine Kd.C_drew ?_))); (case side2 => exact (Kd.S_reads' HO396.out).2.1); (case side3 => repeat (first | exact (Kd.N_reads' HO377.out).2.2 | (with_reducible refine Kd.C_alloc ?_ _) | (with_reducible refine Kd.C_drewN ?_ _) | (with_reducible refine Kd.C_drew ?_))); (case side4 => exact (Kd.N_reads' HO377.out).2.1); rintro e w' ⟨rfl, ⟨nd, rfl⟩⟩))
        go_meet
        case rel => exact ⟨_, (!t420), zF, H', ⟨by first | omega | exact Nat.le_refl _⟩, ⟨by (with_reducible repeat (first | apply Kd.N_alloc | apply Kd.N_drewN | apply Kd.N_drew)); exact Kd.N_mono HO377.out (fun _ hk => ⟨hk.2.2.2.2.2.2.2.2.1, ⟨hk.2.2.2.2.1, ⟨hk.2.2.2.2.2.1, ⟨hk.2.2.2.2.2.2.1, ⟨hk.2.2.2.2.2.2.2.1, ⟨hk.2.2.2.2.2.2.2.2.2.2.2.2.2.1, ⟨hk.2.2.2.2.2.2.2.2.2.2.2.2.2.2.1, ⟨hk.2.2.2.2.2.2.2.2.2.2.2.2.2.2.2.1, hk.2.2.2.2.2.2.2.2.2.2.2.2.2.2.2.2⟩⟩⟩⟩⟩⟩⟩⟩)⟩, ⟨by (with_reducible repeat (first | apply Kd.N_alloc | apply Kd.N_drewN | apply Kd.N_drew)); exact Kd.S_mono HO396.out (fun _ hk => ⟨hk.2.2.2.2.1, ⟨hk.2.2.2.2.2.1, ⟨hk.2.2.2.2.2.2.1, ⟨hk.2.2.2.2.2.2.2.1, ⟨hk.2.2.2.2.2.2.2.2.1, ⟨hk.2.2.2.2.2.2.2.2.2.2.2.2.2.1, ⟨hk.2.2.2.2.2.2.2.2.2.2.2.2.2.2.1, ⟨hk.2.2.2.2.2.2.2.2.2.2.2.2.2.2.2.1, hk.2.2.2.2.2.2.2.2.2.2.2.2.2.2.2.2⟩⟩⟩⟩⟩⟩⟩⟩)⟩, ⟨by (with_reducible repeat (first | apply Kd.R_alloc | apply Kd.R_drewN | apply Kd.R_drew)); exact Kd.R_mono HO381.out (fun _ hk => hk.2.2.1)⟩, ⟨by (with_reducible repeat (first | apply Kd.R_alloc | apply Kd.R_drewN | apply Kd.R_drew)); exact Kd.R_mono HO384.out (fun _ hk => hk.2.2.1)⟩, ⟨by (with_reducible repeat (first | apply Kd.R_alloc | apply Kd.R_drewN | apply Kd.R_drew)); exact Kd.R_mono HO389.out (fun _ hk => hk.2.2.1)⟩, ⟨by (with_reducible repeat (first | apply Kd.R_alloc | apply Kd.R_drewN | apply Kd.R_drew)); exact Kd.R_mono HO392.out (fun _ hk => hk.2.2.1)⟩, ⟨zK BK357⟩, ⟨zK BK358⟩, ⟨zK BK385⟩, ⟨zK BK393⟩, ⟨zB HB⟩⟩
      case rest =>
       clear HC35
       try clear c1
       try clear p2
       try clear c5
       try clear c6
       try clear c8
       try clear c10
       try clear c11
       try clear c12
       try clear c13
       try clear c14
       try clear c15
       try clear c54
       try clear c55
       try clear c62
       try clear c63
       try clear c64
       try clear c86
       try clear c86b0
       try clear hcz51_0
       try clear hcz51_1
       try clear hcz51_2
       try clear hcz56_0
       try clear hcz56_1
       try clear hcz56_2
       try clear hcz59_0
       try clear hcz59_1
       try clear hcz59_2
       try clear hcz65_0
       try clear hcz65_1
       try clear hcz65_2
       try clear hcz68_0
       try clear hcz68_1
       try clear hcz68_2
       try clear hcz82_0
       try clear hcz82_1
       try clear hcz82_2
       try clear hcz84_0
       try clear hcz84_1
       try clear hcz84_2
       try clear hfz51_0
       try clear hfz51_1
       try clear hfz51_2
       try clear hfz56_0
       try clear hfz56_1
       try clear hfz56_2
       try clear hfz59_0
       try clear hfz59_1
       try clear hfz59_2
       try clear hfz65_0
       try clear hfz65_1
       try clear hfz65_2
       try clear hfz68_0
       try clear hfz68_1
       try clear hfz68_2
       try clear hfz82_0
       try clear hfz82_1
       try clear hfz82_2
       try clear hfz84_0
       try clear hfz84_1
       try clear hfz84_2
       obtain ⟨kq, x63_34, rfl, HA, HJ34, HO_6, HO_9, HO_386001, HO_386002, HO_394001, HO_394002, BK357, BK358, BK385, BK393, HB⟩ := hcut
       have hl386001_34 := (Kd.R_reads' HO_386001.out).1
       rw [hl386001_34] at HO_386001
       (try simp only [hl386001_34])
       (try simp only [hl386001_34] at BK357)
       (try simp only [hl386001_34] at BK358)
       (try simp only [hl386001_34] at BK385)
       (try simp only [hl386001_34] at BK393)
       (try simp only [hl386001_34] at HO_6)
       (try simp only [hl386001_34] at HO_9)
       (try simp only [hl386001_34] at HO_386002)
       (try simp only [hl386001_34] at HO_394001)
       (try simp only [hl386001_34] at HO_394002)
       have hl386002_34 := (Kd.R_reads' HO_386002.out).1
       rw [hl386002_34] at HO_386002
       (try simp only [hl386002_34])
       (try simp only [hl386002_34] at BK357)
       (try simp only [hl386002_34] at BK358)
       (try simp only [hl386002_34] at BK385)
       (try simp only [hl386002_34] at BK393)
       (try simp only [hl386002_34] at HO_6)
       (try simp only [hl386002_34] at HO_9)
       (try simp only [hl386002_34] at HO_386001)
       (try simp only [hl386002_34] at HO_394001)
       (try simp only [hl386002_34] at HO_394002)
       have hl394001_34 := (Kd.R_reads' HO_394001.out).1
       rw [hl394001_34] at HO_394001
       (try simp only [hl394001_34])
       (try simp only [hl394001_34] at BK357)
       (try simp only [hl394001_34] at BK358)
       (try simp only [hl394001_34] at BK385)
       (try simp only [hl394001_34] at BK393)
       (try simp only [hl394001_34] at HO_6)
       (try simp only [hl394001_34] at HO_9)
       (try simp only [hl394001_34] at HO_386001)
       (try simp only [hl394001_34] at HO_386002)
       (try simp only [hl394001_34] at HO_394002)
       have hl394002_34 := (Kd.R_reads' HO_394002.out).1
       rw [hl394002_34] at HO_394002
       (try simp only [hl394002_34])
       (try simp only [hl394002_34] at BK357)
       (try simp only [hl394002_34] at BK358)
       (try simp only [hl394002_34] at BK385)
       (try simp only [hl394002_34] at BK393)
       (try simp only [hl394002_34] at HO_6)
       (try simp only [hl394002_34] at HO_9)
       (try simp only [hl394002_34] at HO_386001)
       (try simp only [hl394002_34] at HO_386002)
       (try simp only [hl394002_34] at HO_394001)
       cases kq with
       | zero => exact absurd HA.out (by simp [laws_FnExactPairsOf.j0])
       | succ kj34 =>
        have H := HA.out
        clear HA
        simp only [laws_FnExactPairsOf.j0] at H
        by_cases c88 : x63_34 = true
        ·subst c88
         have H1 : (some false) = some r := by rw [if_pos rfl] at H; exact H
         clear H
         have H := H1
         clear H1
         exact absurd H (by simp [ht_])
        ·replace c88 := Bool.eq_false_iff.mpr c88
         subst c88
         have H1 : ((laws_markIntSS.f kj34 t394 1).bind fun bt421 => ((laws_heldIntSS.f kj34 bt421.2 1).bind fun t423 => (if t423 < 0 then (some false) else (if t423 = bt421.1 then ((laws_toMachine.f kj34 a0_0 l0_1 l0_2).bind fun bt424 => ((laws_toMachine.f kj34 a1_0 l1_1 l1_2).bind fun bt431 => ((impl_PairsOf.f kj34 bt424.1 bt424.2.1 bt424.2.2 bt431.1 bt431.2.1 bt431.2.2).bind fun t438 => ((laws_eqIntSS.f kj34 t438 t375).bind fun t441 => (if t441 = true then ((laws_heldIntSS.f kj34 bt421.2 1).bind fun t442 => (if t442 < 0 then (some false) else (if t442 = bt421.1 then (some true) else (some false)))) else (some false)))))) else (some false))))) = some r := by rw [if_neg (show ¬ (false = true) by decide)] at H; exact H
         clear H
         have H := H1
         clear H1
         replace H := Option.bind_eq_some_iff.mp H
         obtain ⟨⟨t421, t422⟩, A890, H⟩ := H
         replace H : ((laws_heldIntSS.f kj34 t422 1).bind fun t423 => (if t423 < 0 then (some false) else (if t423 = t421 then ((laws_toMachine.f kj34 a0_0 l0_1 l0_2).bind fun bt424 => ((laws_toMachine.f kj34 a1_0 l1_1 l1_2).bind fun bt431 => ((impl_PairsOf.f kj34 bt424.1 bt424.2.1 bt424.2.2 bt431.1 bt431.2.1 bt431.2.2).bind fun t438 => ((laws_eqIntSS.f kj34 t438 t375).bind fun t441 => (if t441 = true then ((laws_heldIntSS.f kj34 t422 1).bind fun t442 => (if t442 < 0 then (some false) else (if t442 = t421 then (some true) else (some false)))) else (some false)))))) else (some false)))) = some r := H
         have A89 := Aside0.mk A890
         clear A890
         obtain ⟨t423, A90, H⟩ := bindS H
         by_cases c91 : t423 < 0
         ·rw [if_pos c91] at H
          have c91b0 : decide (t423 < 0) = true := decide_eq_true c91
          clear c91
          exact absurd H (by simp [ht_])
         ·rw [if_neg c91] at H
          have c91b0 : decide (t423 < 0) = false := decide_eq_false c91
          clear c91
          by_cases c92 : t423 = t421
          ·rw [if_pos c92] at H
           have c92b0 : (t423 == t421) = true := beq_iff_eq.mpr c92
           have c92b1 : (t423 != t421) = false := bne_eq_false_iff_eq.mpr c92
           clear c92
           replace H := Option.bind_eq_some_iff.mp H
           obtain ⟨⟨t424, t425, t428⟩, A930, H⟩ := H
           replace H : ((laws_toMachine.f kj34 a1_0 l1_1 l1_2).bind fun bt431 => ((impl_PairsOf.f kj34 t424 t425 t428 bt431.1 bt431.2.1 bt431.2.2).bind fun t438 => ((laws_eqIntSS.f kj34 t438 t375).bind fun t441 => (if t441 = true then ((laws_heldIntSS.f kj34 t422 1).bind fun t442 => (if t442 < 0 then (some false) else (if t442 = t421 then (some true) else (some false)))) else (some false))))) = some r := H
           have A93 := Aside0.mk A930
           clear A930
           replace H := Option.bind_eq_some_iff.mp H
           obtain ⟨⟨t431, t432, t435⟩, A940, H⟩ := H
           replace H : ((impl_PairsOf.f kj34 t424 t425 t428 t431 t432 t435).bind fun t438 => ((laws_eqIntSS.f kj34 t438 t375).bind fun t441 => (if t441 = true then ((laws_heldIntSS.f kj34 t422 1).bind fun t442 => (if t442 < 0 then (some false) else (if t442 = t421 then (some true) else (some false)))) else (some false)))) = some r := H
           have A94 := Aside0.mk A940
           clear A940
           obtain ⟨t438, A95, H⟩ := bindS H
           obtain ⟨t441, A96, H⟩ := bindS H
           by_cases c97 : t441 = true
           ·subst c97
            have H1 : ((laws_heldIntSS.f kj34 t422 1).bind fun t442 => (if t442 < 0 then (some false) else (if t442 = t421 then (some true) else (some false)))) = some r := by rw [if_pos rfl] at H; exact H
            clear H
            have H := H1
            clear H1
            obtain ⟨t442, A98, H⟩ := bindS H
            by_cases c99 : t442 < 0
            ·rw [if_pos c99] at H
             have c99b0 : decide (t442 < 0) = true := decide_eq_true c99
             clear c99
             exact absurd H (by simp [ht_])
            ·rw [if_neg c99] at H
             have c99b0 : decide (t442 < 0) = false := decide_eq_false c99
             clear c99
             by_cases c100 : t442 = t421
             ·rw [if_pos c100] at H
              have c100b0 : (t442 == t421) = true := beq_iff_eq.mpr c100
              have c100b1 : (t442 != t421) = false := bne_eq_false_iff_eq.mpr c100
              clear c100
              obtain rfl := Option.some.inj H
              obtain ⟨PG_, sg_, lg_, tg_⟩ := gh_hold (Kd.S_mono HO_9.out (fun k_ hk_ => (pick hk_ : lo_ ≤ k_)))
              have SG_ := Aside0.mk sg_
              have LG_ := Aside0.mk lg_
              have TG_ := Aside0.mk tg_
              clear sg_ lg_ tg_
              try go_wp2_with (first | ((with_reducible refine gate_callee (f := 16) rfl ?_); refine goesL_ (some 66) rfl rfl Try.func16 (by kernel_rfl) rfl #[.slice Ao70 t394.length co70, .int .i64 1] rfl zG ?_; (with_reducible refine (laws_markIntSS.calls kj34 PG_ (.slice Ao70 t394.length co70) t394 1 t421 t422 w _ ?side1 ?side2 A89.out).mono ?_); (case side1 => repeat (first | (with_reducible first | exact HB.out | apply below_alloc | apply pw_below_drewN | apply below_drew1 | refine below_set ?_ GE357.out | refine below_set ?_ GE358.out | refine below_set ?_ GE385.out | refine below_set ?_ GE393.out) | exact HB.out)); (case side2 => exact SG_.out); rintro e w101 ⟨rfl, hy0, hb, hkp⟩; refine ⟨_, rfl, ?_⟩; replace HO_6 := Aside0.mk (Kd.N_mono (ok' := fun k_ => k_ < lo_ ∧ some k_ ≠ (.slice Ao57 t415.length co57 : Value).ownBlock ∧ some k_ ≠ (.slice Ao58 t416.length co58 : Value).ownBlock ∧ some k_ ≠ (.slice Ao66 t418.length co66 : Value).ownBlock ∧ some k_ ≠ (.slice Ao67 t419.length co67 : Value).ownBlock ∧ k_ ≠ gb357 ∧ k_ ≠ gb358 ∧ k_ ≠ gb385 ∧ k_ ≠ gb393) (Kd.N_keptB (HO_6.out) hkp (fun k_ hk_ hs_ => Nat.not_le.2 (show k_ < lo_ from pick hk_) (LG_.out k_ hs_))) (fun k_ hk_ => ⟨(pick hk_), (pick hk_), (pick hk_), (pick hk_), (pick hk_), (pick hk_), (pick hk_), (pick hk_), (pick hk_)⟩)); replace HO_386001 := Aside0.mk (Kd.R_mono (ok' := fun k_ => some k_ ≠ (.slice Ao66 t418.length co66 : Value).ownBlock) (Kd.R_keptB (Kd.R_bound HO_386001.out) hkp (fun k_ hk_ hs_ => gh_ne hk_.2.2.2 (TG_.out k_ hs_) (by decide))) (fun k_ hk_ => (pick hk_))); replace HO_386002 := Aside0.mk (Kd.R_mono (ok' := fun k_ => some k_ ≠ (.slice Ao67 t419.length co67 : Value).ownBlock) (Kd.R_keptB (Kd.R_bound HO_386002.out) hkp (fun k_ hk_ hs_ => gh_ne hk_.2.2.2 (TG_.out k_ hs_) (by decide))) (fun k_ hk_ => (pick hk_))); replace HO_394001 := Aside0.mk (Kd.R_mono (ok' := fun k_ => some k_ ≠ (.slice Ao57 t415.length co57 : Value).ownBlock) (Kd.R_keptB (Kd.R_bound HO_394001.out) hkp (fun k_ hk_ hs_ => gh_ne hk_.2.2.2 (TG_.out k_ hs_) (by decide))) (fun k_ hk_ => (pick hk_))); replace HO_394002 := Aside0.mk (Kd.R_mono (ok' := fun k_ => some k_ ≠ (.slice Ao58 t416.length co58 : Value).ownBlock) (Kd.R_keptB (Kd.R_bound HO_394002.out) hkp (fun k_ hk_ hs_ => gh_ne hk_.2.2.2 (TG_.out k_ hs_) (by decide))) (fun k_ hk_ => (pick hk_))); replace BK357 := Aside0.mk (blk_kept (zK BK357) hkp (fun hs_ => gh_blk BK357.out (TG_.out _ hs_) (by decide))); replace BK358 := Aside0.mk (blk_kept (zK BK358) hkp (fun hs_ => gh_blk BK358.out (TG_.out _ hs_) (by decide))); replace BK385 := Aside0.mk (blk_kept (zK BK385) hkp (fun hs_ => gh_blk BK385.out (TG_.out _ hs_) (by decide))); replace BK393 := Aside0.mk (blk_kept (zK BK393) hkp (fun hs_ => gh_blk BK393.out (TG_.out _ hs_) (by decide))); replace HO_9 := Aside0.mk (Kd.N_mono (ok' := fun k_ => True ∧ True ∧ True ∧ True ∧ True ∧ True ∧ True ∧ True ∧ True) (Kd.S_N hy0) (fun _ _ => by simp)); replace HB := Aside0.mk (hb); (try clear hb); (try clear hkp); (try clear hy0)) | ((with_reducible refine gate_callee (f := 17) rfl ?_); refine goesL_ (some 69) rfl rfl Try.func17 (by kernel_rfl) rfl #[.slice Ao70 t422.length co70, .int .i64 1] rfl (by (try simp only [List.map_toArray, List.map_cons, List.map_nil]); first | done | (rw [show t422.length = t394.length from (Kd.N_reads' HO_9.out).1.symm] <;> rfl) | rfl | (simp only [List.length_drop, List.length_take]; rfl)) ?_; (with_reducible refine (laws_heldIntSS.calls kj34 _ _ t422 1 t423 _ ?side1 ?side2 A90.out).mono ?_); (case side1 => repeat (first | exact (Kd.N_reads' HO_9.out).2.2 | (with_reducible refine Kd.C_alloc ?_ _) | (with_reducible refine Kd.C_drewN ?_ _) | (with_reducible refine Kd.C_drew ?_))); (case side2 => rw [show t422.length = t394.length from (Kd.N_reads' HO_9.out).1.symm]; exact (Kd.N_reads' HO_9.out).2.1); rintro e w' ⟨rfl, ⟨nd, rfl⟩⟩; refine ⟨_, rfl, ?_⟩))
              (try (rw [drewN_self w101]; generalize hq_ : World.drewN w101 _ = w101; have n0_ : Aside0 (Kd.R Kd.bool 4 w101 w.heap.size (fun k_ => some k_ ≠ (.slice Ao66 t418.length co66 : Value).ownBlock) (.slice Ao57 t415.length co57) t415) := ⟨by rw [← hq_]; exact (zR HO_386001)⟩; have n1_ : Aside0 (Kd.R k64 64 w101 w.heap.size (fun k_ => some k_ ≠ (.slice Ao67 t419.length co67 : Value).ownBlock) (.slice Ao58 t416.length co58) t416) := ⟨by rw [← hq_]; exact (zR HO_386002)⟩; have n2_ : Aside0 (Kd.R Kd.bool 4 w101 w.heap.size (fun k_ => some k_ ≠ (.slice Ao57 t415.length co57 : Value).ownBlock) (.slice Ao66 t418.length co66) t418) := ⟨by rw [← hq_]; exact (zR HO_394001)⟩; have n3_ : Aside0 (Kd.R k64 64 w101 w.heap.size (fun k_ => some k_ ≠ (.slice Ao58 t416.length co58 : Value).ownBlock) (.slice Ao67 t419.length co67) t419) := ⟨by rw [← hq_]; exact (zR HO_394002)⟩; have n4_ : Aside0 (Kd.N (Kd.slice 3 (Kd.int .i64)) 38 w101 w.heap.size (fun k_ => some k_ ≠ (.slice Ao57 t415.length co57 : Value).ownBlock ∧ some k_ ≠ (.slice Ao58 t416.length co58 : Value).ownBlock ∧ some k_ ≠ (.slice Ao66 t418.length co66 : Value).ownBlock ∧ some k_ ≠ (.slice Ao67 t419.length co67 : Value).ownBlock ∧ k_ < lo_ ∧ k_ ≠ gb357 ∧ k_ ≠ gb358 ∧ k_ ≠ gb385 ∧ k_ ≠ gb393) (.slice Ao71 t375.length co71) t375) := ⟨by rw [← hq_]; exact (by (with_reducible repeat (first | apply Kd.N_alloc | apply Kd.N_drewN | apply Kd.N_drew)); exact Kd.N_mono HO_6.out (fun _ hk => ⟨hk.2.1, ⟨hk.2.2.1, ⟨hk.2.2.2.1, ⟨hk.2.2.2.2.1, ⟨hk.1, ⟨hk.2.2.2.2.2.1, ⟨hk.2.2.2.2.2.2.1, ⟨hk.2.2.2.2.2.2.2.1, hk.2.2.2.2.2.2.2.2⟩⟩⟩⟩⟩⟩⟩⟩))⟩; have n5_ : Aside0 (Kd.N (Kd.slice 3 (Kd.int .i64)) 38 w101 w.heap.size (fun k_ => True ∧ True ∧ True ∧ True ∧ True ∧ True ∧ True ∧ True ∧ True) (.slice Ao70 t394.length co70) t422) := ⟨by rw [← hq_]; exact (by (with_reducible repeat (first | apply Kd.N_alloc | apply Kd.N_drewN | apply Kd.N_drew)); exact Kd.N_mono HO_9.out (fun _ hk => ⟨hk.2.1, ⟨hk.2.2.1, ⟨hk.2.2.2.1, ⟨hk.2.2.2.2.1, ⟨hk.1, ⟨hk.2.2.2.2.2.1, ⟨hk.2.2.2.2.2.2.1, ⟨hk.2.2.2.2.2.2.2.1, hk.2.2.2.2.2.2.2.2⟩⟩⟩⟩⟩⟩⟩⟩))⟩; have n6_ : Aside0 (w101.heap[gb357]? = some (.cells #[.int .i64 a0_0, .slice A0_1 l0_1.length c0_1, .slice A0_2 l0_2.length c0_2] 25 (0, 0))) := ⟨by rw [← hq_]; exact (zK BK357)⟩; have n7_ : Aside0 (w101.heap[gb358]? = some (.cells #[.int .i64 a1_0, .slice A1_1 l1_1.length c1_1, .slice A1_2 l1_2.length c1_2] 25 (0, 0))) := ⟨by rw [← hq_]; exact (zK BK358)⟩; have n8_ : Aside0 (w101.heap[gb385]? = some (.cells #[.int .i64 t378, .slice Ao57 t415.length co57, .slice Ao58 t416.length co58] 31 (0, 0))) := ⟨by rw [← hq_]; exact (zK BK385)⟩; have n9_ : Aside0 (w101.heap[gb393]? = some (.cells #[.int .i64 t386, .slice Ao66 t418.length co66, .slice Ao67 t419.length co67] 31 (0, 0))) := ⟨by rw [← hq_]; exact (zK BK393)⟩; have n10_ : Aside0 (Below w.heap.size w w101) := ⟨by rw [← hq_]; exact (zB HB)⟩; clear HO_386001 HO_386002 HO_394001 HO_394002 HO_6 HO_9 BK357 BK358 BK385 BK393 HB hq_; have HO_386001 := n0_; have HO_386002 := n1_; have HO_394001 := n2_; have HO_394002 := n3_; have HO_6 := n4_; have HO_9 := n5_; have BK357 := n6_; have BK358 := n7_; have BK385 := n8_; have BK393 := n9_; have HB := n10_; clear n0_ n1_ n2_ n3_ n4_ n5_ n6_ n7_ n8_ n9_ n10_; have hcw357_0 : w101.cell? ⟨gb357, 0, none⟩ = some (.int .i64 a0_0) := bc0 BK357; have hfw357_0 := bf BK357 0; have hcw357_1 : w101.cell? ⟨gb357, 1, none⟩ = some (.slice A0_1 l0_1.length c0_1) := bc1 BK357; have hfw357_1 := bf BK357 1; have hcw357_2 : w101.cell? ⟨gb357, 2, none⟩ = some (.slice A0_2 l0_2.length c0_2) := bc2 BK357; have hfw357_2 := bf BK357 2; have hcw358_0 : w101.cell? ⟨gb358, 0, none⟩ = some (.int .i64 a1_0) := bc0 BK358; have hfw358_0 := bf BK358 0; have hcw358_1 : w101.cell? ⟨gb358, 1, none⟩ = some (.slice A1_1 l1_1.length c1_1) := bc1 BK358; have hfw358_1 := bf BK358 1; have hcw358_2 : w101.cell? ⟨gb358, 2, none⟩ = some (.slice A1_2 l1_2.length c1_2) := bc2 BK358; have hfw358_2 := bf BK358 2; have hcw385_0 : w101.cell? ⟨gb385, 0, none⟩ = some (.int .i64 t378) := bc0 BK385; have hfw385_0 := bf BK385 0; have hcw385_1 : w101.cell? ⟨gb385, 1, none⟩ = some (.slice Ao57 t415.length co57) := bc1 BK385; have hfw385_1 := bf BK385 1; have hcw385_2 : w101.cell? ⟨gb385, 2, none⟩ = some (.slice Ao58 t416.length co58) := bc2 BK385; have hfw385_2 := bf BK385 2; have hcw393_0 : w101.cell? ⟨gb393, 0, none⟩ = some (.int .i64 t386) := bc0 BK393; have hfw393_0 := bf BK393 0; have hcw393_1 : w101.cell? ⟨gb393, 1, none⟩ = some (.slice Ao66 t418.length co66) := bc1 BK393; have hfw393_1 := bf BK393 1; have hcw393_2 : w101.cell? ⟨gb393, 2, none⟩ = some (.slice Ao67 t419.length co67) := bc2 BK393; have hfw393_2 := bf BK393 2))
              try (obtain ⟨wn_, hwn_⟩ : ∃ x_ : World, x_ = w101.drewN nd := ⟨_, rfl⟩; rw [← hwn_]; have hq_ := Kd.N_drewN HO_6.out nd; rw [← hwn_] at hq_; replace HO_6 := Aside0.mk hq_; clear hq_; have hq_ := Kd.N_drewN HO_9.out nd; rw [← hwn_] at hq_; replace HO_9 := Aside0.mk hq_; clear hq_; have hq_ := Kd.R_drewN HO_386001.out nd; rw [← hwn_] at hq_; replace HO_386001 := Aside0.mk hq_; clear hq_; have hq_ := Kd.R_drewN HO_386002.out nd; rw [← hwn_] at hq_; replace HO_386002 := Aside0.mk hq_; clear hq_; have hq_ := Kd.R_drewN HO_394001.out nd; rw [← hwn_] at hq_; replace HO_394001 := Aside0.mk hq_; clear hq_; have hq_ := Kd.R_drewN HO_394002.out nd; rw [← hwn_] at hq_; replace HO_394002 := Aside0.mk hq_; clear hq_; have hq_ := blk_drewN BK357.out nd; rw [← hwn_] at hq_; replace BK357 := Aside0.mk hq_; clear hq_; have hq_ := blk_drewN BK358.out nd; rw [← hwn_] at hq_; replace BK358 := Aside0.mk hq_; clear hq_; have hq_ := blk_drewN BK385.out nd; rw [← hwn_] at hq_; replace BK385 := Aside0.mk hq_; clear hq_; have hq_ := blk_drewN BK393.out nd; rw [← hwn_] at hq_; replace BK393 := Aside0.mk hq_; clear hq_; have hq_ := pw_below_drewN HB.out nd; rw [← hwn_] at hq_; replace HB := Aside0.mk hq_; clear hq_; clear hwn_)
              replace HO_6 := Aside0.mk (Kd.N_drew HO_6.out)
              replace HO_9 := Aside0.mk (Kd.N_drew HO_9.out)
              replace HO_386001 := Aside0.mk (Kd.R_drew HO_386001.out)
              replace HO_386002 := Aside0.mk (Kd.R_drew HO_386002.out)
              replace HO_394001 := Aside0.mk (Kd.R_drew HO_394001.out)
              replace HO_394002 := Aside0.mk (Kd.R_drew HO_394002.out)
              replace BK357 := Aside0.mk (blk_drew BK357.out)
              replace BK358 := Aside0.mk (blk_drew BK358.out)
              replace BK385 := Aside0.mk (blk_drew BK385.out)
              replace BK393 := Aside0.mk (blk_drew BK393.out)
              replace HB := Aside0.mk (below_drew1 HB.out)
              refine start_ (n := 6) (S := fun w' => w'.cell? ⟨gb357, 0, none⟩ = some (.int .i64 a0_0) ∧ w'.cell? ⟨gb357, 1, none⟩ = some (.slice A0_1 l0_1.length c0_1) ∧ w'.cell? ⟨gb357, 2, none⟩ = some (.slice A0_2 l0_2.length c0_2) ∧ w'.cell? ⟨gb358, 0, none⟩ = some (.int .i64 a1_0) ∧ w'.cell? ⟨gb358, 1, none⟩ = some (.slice A1_1 l1_1.length c1_1) ∧ w'.cell? ⟨gb358, 2, none⟩ = some (.slice A1_2 l1_2.length c1_2)) (ds := []) (bm 6 0) (by kernel_rfl) rfl (bm0 _) ⟨bc0 BK357, bc1 BK357, bc2 BK357, bc0 BK358, bc1 BK358, bc2 BK358⟩ (fun hHeld => ?_)
              first | (generalize wn_.drew = w102 at HO_6 HO_9 HO_386001 HO_386002 HO_394001 HO_394002 BK357 BK358 BK385 BK393 HB hHeld ⊢) | (generalize w101.drew = w102 at HO_6 HO_9 HO_386001 HO_386002 HO_394001 HO_394002 BK357 BK358 BK385 BK393 HB hHeld ⊢)
              refine take_ (i := 0) (N := some 75) (v := ?_) (a' := ?_) (bm 6 1) rfl rfl (by kernel_rfl) (fun _ _ _ h => h) (Or.inl ⟨by rfl, ?_⟩) hHeld ?_ ?_
              rotate_left
              ·rintro w' ⟨s0, s1, s2, s3, s4, s5⟩
               go_simp
               with_reducible rfl
              rotate_left
              ·simp only [Act.put, List.setIfInBounds_toArray, List.set_cons_zero, List.set_cons_succ, i64_w, i32_w]
               rfl
              refine take_ (i := 2) (N := some 77) (v := ?_) (a' := ?_) (bm 6 5) rfl rfl (by kernel_rfl) (fun _ _ _ h => h) (Or.inl ⟨by rfl, ?_⟩) hHeld ?_ ?_
              rotate_left
              ·rintro w' ⟨s0, s1, s2, s3, s4, s5⟩
               go_simp
               with_reducible rfl
              rotate_left
              ·simp only [Act.put, List.setIfInBounds_toArray, List.set_cons_zero, List.set_cons_succ, i64_w, i32_w]
               rfl
              refine one_ (i := 1) (N := some 76) (bm 6 7) rfl rfl (by kernel_rfl) (by decide) (fun K hK => ?_)
              refine goes_ Try.func11 (by kernel_rfl) rfl #[.agg #[.int .i64 a0_0, .slice A0_1 l0_1.length c0_1, .slice A0_2 l0_2.length c0_2]] (by rfl) rfl rfl zG ?_
              with_reducible refine (laws_toMachine.calls kj34 a0_0 _ _ l0_1 _ _ l0_2 t424 t425 t428 _ ?side1 ?side2 ?side3 ?side4 A93.out).mono ?_
              (case side1 => exact cS HR0_1 HB)
              (case side2 => exact HC0_1.out)
              (case side3 => exact cS HR0_2 HB)
              (case side4 => exact HC0_2.out)
              rintro e w103 ⟨v426, v429, rfl, ho0, ho1, hb⟩
              refine ⟨_, rfl, ?_⟩
              replace HO_6 := Aside0.mk (Kd.N_mono (Kd.N_told (Kd.N_told (Kd.N_old (by (with_reducible repeat (first | apply Kd.N_alloc | apply Kd.N_drewN | apply Kd.N_drew)); exact HO_6.out) hb) (Kd.R_base ho0)) (Kd.R_base ho1)) (fun _ h_ => h_.1))
              replace HO_9 := Aside0.mk (Kd.N_mono (Kd.N_told (Kd.N_told (Kd.N_old (by (with_reducible repeat (first | apply Kd.N_alloc | apply Kd.N_drewN | apply Kd.N_drew)); exact HO_9.out) hb) (Kd.R_base ho0)) (Kd.R_base ho1)) (fun _ h_ => h_.1))
              have HO427 := Aside0.mk (Kd.R_lower (Kd.R_new' (Kd.R_new' ho0 (Kd.R_lt (zR HO_386001))) (Kd.R_lt (zR HO_394001))) (below_size (zB HB)))
              replace HO_386001 := Aside0.mk (Kd.R_elder' (zR HO_386001) (Kd.R_base ho0) hb)
              replace HO_394001 := Aside0.mk (Kd.R_elder' (zR HO_394001) (Kd.R_base ho0) hb)
              have HO430 := Aside0.mk (Kd.R_lower (Kd.R_new' (Kd.R_new' ho1 (Kd.R_lt (zR HO_386002))) (Kd.R_lt (zR HO_394002))) (below_size (zB HB)))
              replace HO_386002 := Aside0.mk (Kd.R_elder' (zR HO_386002) (Kd.R_base ho1) hb)
              replace HO_394002 := Aside0.mk (Kd.R_elder' (zR HO_394002) (Kd.R_base ho1) hb)
              replace BK357 := kB BK357 hb
              replace BK358 := kB BK358 hb
              replace BK385 := kB BK385 hb
              replace BK393 := kB BK393 hb
              replace HB := bS HB hb
              (try clear hb)
              (try clear hb2)
              (try clear hk)
              (try clear hi)
              (try clear ho0)
              (try clear ho1)
              refine hK.out _ _ ⟨bc0 BK357, bc1 BK357, bc2 BK357, bc0 BK358, bc1 BK358, bc2 BK358⟩ (fun hHeld => ?_)
              clear hK K
              refine norm_ (a' := ?_) ?_ ?_
              rotate_left
              ·show Act.put _ (some 76) _ = _
               simp only [Act.put, List.setIfInBounds_toArray, List.set_cons_zero, List.set_cons_succ, i64_w, i32_w]
               rfl
              refine one_ (i := 3) (N := some 78) (bm 6 15) rfl rfl (by kernel_rfl) (by decide) (fun K hK => ?_)
              refine goes_ Try.func11 (by kernel_rfl) rfl #[.agg #[.int .i64 a1_0, .slice A1_1 l1_1.length c1_1, .slice A1_2 l1_2.length c1_2]] (by rfl) rfl rfl zG ?_
              with_reducible refine (laws_toMachine.calls kj34 a1_0 _ _ l1_1 _ _ l1_2 t431 t432 t435 _ ?side1 ?side2 ?side3 ?side4 A94.out).mono ?_
              (case side1 => exact cS HR1_1 HB)
              (case side2 => exact HC1_1.out)
              (case side3 => exact cS HR1_2 HB)
              (case side4 => exact HC1_2.out)
              rintro e w104 ⟨v433, v436, rfl, ho0, ho1, hb⟩
              refine ⟨_, rfl, ?_⟩
              replace HO_6 := Aside0.mk (Kd.N_mono (Kd.N_told (Kd.N_told (Kd.N_old (by (with_reducible repeat (first | apply Kd.N_alloc | apply Kd.N_drewN | apply Kd.N_drew)); exact HO_6.out) hb) (Kd.R_base ho0)) (Kd.R_base ho1)) (fun _ h_ => h_.1))
              replace HO_9 := Aside0.mk (Kd.N_mono (Kd.N_told (Kd.N_told (Kd.N_old (by (with_reducible repeat (first | apply Kd.N_alloc | apply Kd.N_drewN | apply Kd.N_drew)); exact HO_9.out) hb) (Kd.R_base ho0)) (Kd.R_base ho1)) (fun _ h_ => h_.1))
              have HO434 := Aside0.mk (Kd.R_lower (Kd.R_new' (Kd.R_new' (Kd.R_new' ho0 (Kd.R_lt (zR HO_386001))) (Kd.R_lt (zR HO_394001))) (Kd.R_lt (zR HO427))) (below_size (zB HB)))
              replace HO_386001 := Aside0.mk (Kd.R_elder' (zR HO_386001) (Kd.R_base ho0) hb)
              replace HO_394001 := Aside0.mk (Kd.R_elder' (zR HO_394001) (Kd.R_base ho0) hb)
              replace HO427 := Aside0.mk (Kd.R_elder' (zR HO427) (Kd.R_base ho0) hb)
              have HO437 := Aside0.mk (Kd.R_lower (Kd.R_new' (Kd.R_new' (Kd.R_new' ho1 (Kd.R_lt (zR HO_386002))) (Kd.R_lt (zR HO_394002))) (Kd.R_lt (zR HO430))) (below_size (zB HB)))
              replace HO_386002 := Aside0.mk (Kd.R_elder' (zR HO_386002) (Kd.R_base ho1) hb)
              replace HO_394002 := Aside0.mk (Kd.R_elder' (zR HO_394002) (Kd.R_base ho1) hb)
              replace HO430 := Aside0.mk (Kd.R_elder' (zR HO430) (Kd.R_base ho1) hb)
              replace BK357 := kB BK357 hb
              replace BK358 := kB BK358 hb
              replace BK385 := kB BK385 hb
              replace BK393 := kB BK393 hb
              replace HB := bS HB hb
              (try clear hb)
              (try clear hb2)
              (try clear hk)
              (try clear hi)
              (try clear ho0)
              (try clear ho1)
              obtain ⟨Ao105, co105, eo105⟩ := Kd.R_slice HO427.out
              (first | subst eo105 | (injection eo105 with f1_ f2_ f3_; have f4_ := f1_.symm; have f5_ := f3_.symm; clear f1_ f2_ f3_; subst f4_; subst f5_))
              obtain ⟨Ao106, co106, eo106⟩ := Kd.R_slice HO430.out
              (first | subst eo106 | (injection eo106 with f1_ f2_ f3_; have f4_ := f1_.symm; have f5_ := f3_.symm; clear f1_ f2_ f3_; subst f4_; subst f5_))
              obtain ⟨Ao107, co107, eo107⟩ := Kd.R_slice HO434.out
              (first | subst eo107 | (injection eo107 with f1_ f2_ f3_; have f4_ := f1_.symm; have f5_ := f3_.symm; clear f1_ f2_ f3_; subst f4_; subst f5_))
              obtain ⟨Ao108, co108, eo108⟩ := Kd.R_slice HO437.out
              (first | subst eo108 | (injection eo108 with f1_ f2_ f3_; have f4_ := f1_.symm; have f5_ := f3_.symm; clear f1_ f2_ f3_; subst f4_; subst f5_))
              refine hK.out _ _ ⟨bc0 BK357, bc1 BK357, bc2 BK357, bc0 BK358, bc1 BK358, bc2 BK358⟩ (fun hHeld => ?_)
              clear hK K
              refine norm_ (a' := ?_) ?_ ?_
              rotate_left
              ·show Act.put _ (some 78) _ = _
               simp only [Act.put, List.setIfInBounds_toArray, List.set_cons_zero, List.set_cons_succ, i64_w, i32_w]
               rfl
              refine one_ (i := 4) (N := some 79) (bm 6 31) rfl rfl (by kernel_rfl) (by decide) (fun K hK => ?_)
              refine goes_ Try.func12 (by kernel_rfl) rfl #[.agg #[.int .i64 t424, .slice Ao105 t425.length co105, .slice Ao106 t428.length co106], .agg #[.int .i64 t431, .slice Ao107 t432.length co107, .slice Ao108 t435.length co108]] (by rfl) rfl rfl zG ?_
              with_reducible refine (impl_PairsOf.calls kj34 t424 _ _ t425 _ _ t428 t431 _ _ t432 _ _ t435 t438 _ ?side1 ?side2 ?side3 ?side4 ?side5 ?side6 ?side7 ?side8 A95.out).mono ?_
              (case side1 => repeat (first | exact (Kd.R_reads' HO427.out).2.2 | (with_reducible refine Kd.C_alloc ?_ _) | (with_reducible refine Kd.C_drewN ?_ _) | (with_reducible refine Kd.C_drew ?_)))
              (case side2 => exact (Kd.R_reads' HO427.out).2.1)
              (case side3 => repeat (first | exact (Kd.R_reads' HO430.out).2.2 | (with_reducible refine Kd.C_alloc ?_ _) | (with_reducible refine Kd.C_drewN ?_ _) | (with_reducible refine Kd.C_drew ?_)))
              (case side4 => exact (Kd.R_reads' HO430.out).2.1)
              (case side5 => repeat (first | exact (Kd.R_reads' HO434.out).2.2 | (with_reducible refine Kd.C_alloc ?_ _) | (with_reducible refine Kd.C_drewN ?_ _) | (with_reducible refine Kd.C_drew ?_)))
              (case side6 => exact (Kd.R_reads' HO434.out).2.1)
              (case side7 => repeat (first | exact (Kd.R_reads' HO437.out).2.2 | (with_reducible refine Kd.C_alloc ?_ _) | (with_reducible refine Kd.C_drewN ?_ _) | (with_reducible refine Kd.C_drew ?_)))
              (case side8 => exact (Kd.R_reads' HO437.out).2.1)
              rintro e w109 ⟨v439, rfl, ho0, hb⟩
              refine ⟨_, rfl, ?_⟩
              have HO440 := Aside0.mk (Kd.N_lower (Kd.N_mono (ok' := fun k_ => some k_ ≠ (.slice Ao71 t375.length co71 : Value).ownBlock ∧ some k_ ≠ (.slice Ao70 t394.length co70 : Value).ownBlock ∧ some k_ ≠ (.slice Ao57 t415.length co57 : Value).ownBlock ∧ some k_ ≠ (.slice Ao58 t416.length co58 : Value).ownBlock ∧ some k_ ≠ (.slice Ao66 t418.length co66 : Value).ownBlock ∧ some k_ ≠ (.slice Ao67 t419.length co67 : Value).ownBlock ∧ some k_ ≠ (.slice Ao105 t425.length co105 : Value).ownBlock ∧ some k_ ≠ (.slice Ao106 t428.length co106 : Value).ownBlock ∧ some k_ ≠ (.slice Ao107 t432.length co107 : Value).ownBlock ∧ some k_ ≠ (.slice Ao108 t435.length co108 : Value).ownBlock ∧ k_ ≠ gb357 ∧ k_ ≠ gb358 ∧ k_ ≠ gb385 ∧ k_ ≠ gb393) (Kd.S_N (Kd.S_bound ho0)) (fun k_ hk_ => ⟨(Kd.fresh' (Kd.N_lt (by (with_reducible repeat (first | apply Kd.N_alloc | apply Kd.N_drewN | apply Kd.N_drew)); exact HO_6.out)) k_ hk_.2.1), (Kd.fresh' (Kd.N_lt (by (with_reducible repeat (first | apply Kd.N_alloc | apply Kd.N_drewN | apply Kd.N_drew)); exact HO_9.out)) k_ hk_.2.1), (Kd.fresh' (Kd.R_lt (zR HO_386001)) k_ hk_.2.1), (Kd.fresh' (Kd.R_lt (zR HO_386002)) k_ hk_.2.1), (Kd.fresh' (Kd.R_lt (zR HO_394001)) k_ hk_.2.1), (Kd.fresh' (Kd.R_lt (zR HO_394002)) k_ hk_.2.1), (Kd.fresh' (Kd.R_lt (zR HO427)) k_ hk_.2.1), (Kd.fresh' (Kd.R_lt (zR HO430)) k_ hk_.2.1), (Kd.fresh' (Kd.R_lt (zR HO434)) k_ hk_.2.1), (Kd.fresh' (Kd.R_lt (zR HO437)) k_ hk_.2.1), (Kd.freshB (g := gb357) (o := .cells #[.int .i64 a0_0, .slice A0_1 l0_1.length c0_1, .slice A0_2 l0_2.length c0_2] 25 (0, 0)) (zK BK357) k_ hk_.2.1), (Kd.freshB (g := gb358) (o := .cells #[.int .i64 a1_0, .slice A1_1 l1_1.length c1_1, .slice A1_2 l1_2.length c1_2] 25 (0, 0)) (zK BK358) k_ hk_.2.1), (Kd.freshB (g := gb385) (o := .cells #[.int .i64 t378, .slice Ao57 t415.length co57, .slice Ao58 t416.length co58] 31 (0, 0)) (zK BK385) k_ hk_.2.1), (Kd.freshB (g := gb393) (o := .cells #[.int .i64 t386, .slice Ao66 t418.length co66, .slice Ao67 t419.length co67] 31 (0, 0)) (zK BK393) k_ hk_.2.1)⟩)) (below_size (zB HB)))
              replace HO_6 := Aside0.mk (Kd.N_elder' (by (with_reducible repeat (first | apply Kd.N_alloc | apply Kd.N_drewN | apply Kd.N_drew)); exact HO_6.out) (by first | exact Kd.N_base ho0 | exact Kd.S_base ho0) hb)
              replace HO_9 := Aside0.mk (Kd.N_elder' (by (with_reducible repeat (first | apply Kd.N_alloc | apply Kd.N_drewN | apply Kd.N_drew)); exact HO_9.out) (by first | exact Kd.N_base ho0 | exact Kd.S_base ho0) hb)
              replace HO_386001 := Aside0.mk (Kd.R_below (zR HO_386001) hb)
              replace HO_386002 := Aside0.mk (Kd.R_below (zR HO_386002) hb)
              replace HO_394001 := Aside0.mk (Kd.R_below (zR HO_394001) hb)
              replace HO_394002 := Aside0.mk (Kd.R_below (zR HO_394002) hb)
              replace HO427 := Aside0.mk (Kd.R_below (zR HO427) hb)
              replace HO430 := Aside0.mk (Kd.R_below (zR HO430) hb)
              replace HO434 := Aside0.mk (Kd.R_below (zR HO434) hb)
              replace HO437 := Aside0.mk (Kd.R_below (zR HO437) hb)
              replace BK357 := kB BK357 hb
              replace BK358 := kB BK358 hb
              replace BK385 := kB BK385 hb
              replace BK393 := kB BK393 hb
              replace HB := bS HB hb
              (try clear hb)
              (try clear hb2)
              (try clear hk)
              (try clear hi)
              (try clear ho0)
              refine hK.out _ _ ⟨bc0 BK357, bc1 BK357, bc2 BK357, bc0 BK358, bc1 BK358, bc2 BK358⟩ (fun hHeld => ?_)
              clear hK K
              refine norm_ (a' := ?_) ?_ ?_
              rotate_left
              ·show Act.put _ (some 79) _ = _
               simp only [Act.put, List.setIfInBounds_toArray, List.set_cons_zero, List.set_cons_succ, i64_w, i32_w]
               rfl
              refine pure_ (i := 5) (N := some 13) (v := ?_) (a' := ?_) (bm 6 63) rfl rfl (by kernel_rfl) (fun _ _ _ h => h) (Or.inl ⟨by rfl, ?_⟩) ?_ ?_
              rotate_left
              ·intro w'
               go_simp
               with_reducible rfl
              rotate_left
              ·simp only [Act.put, List.setIfInBounds_toArray, List.set_cons_zero, List.set_cons_succ, i64_w, i32_w]
               rfl
              refine done_ (by kernel_rfl) ?_
              try clear hHeld
              obtain ⟨Ao110, co110, eo110⟩ := Kd.N_slice HO440.out
              subst eo110
              try go_wp2_with (first | ((with_reducible refine gate_callee (f := 13) rfl ?_); refine goesL_ (some 82) rfl rfl Try.func13 (by kernel_rfl) rfl #[.slice Ao110 t438.length co110, .slice Ao71 t375.length co71] rfl zG ?_; (with_reducible refine (laws_eqIntSS.calls kj34 _ _ t438 _ _ t375 true _ ?side1 ?side2 ?side3 ?side4 A96.out).mono ?_); (case side1 => repeat (first | exact (Kd.N_reads' HO440.out).2.2 | (with_reducible refine Kd.C_alloc ?_ _) | (with_reducible refine Kd.C_drewN ?_ _) | (with_reducible refine Kd.C_drew ?_))); (case side2 => exact (Kd.N_reads' HO440.out).2.1); (case side3 => repeat (first | exact (Kd.N_reads' HO_6.out).2.2 | (with_reducible refine Kd.C_alloc ?_ _) | (with_reducible refine Kd.C_drewN ?_ _) | (with_reducible refine Kd.C_drew ?_))); (case side4 => exact (Kd.N_reads' HO_6.out).2.1); rintro e w' ⟨rfl, ⟨nd, rfl⟩⟩; refine ⟨_, rfl, ?_⟩) | ((with_reducible refine gate_callee (f := 17) rfl ?_); refine goesL_ (some 86) rfl rfl Try.func17 (by kernel_rfl) rfl #[.slice Ao70 t422.length co70, .int .i64 1] rfl (by (try simp only [List.map_toArray, List.map_cons, List.map_nil]); first | done | (rw [show t422.length = t394.length from (Kd.N_reads' HO_9.out).1.symm] <;> rfl) | rfl | (simp only [List.length_drop, List.length_take]; rfl)) ?_; (with_reducible refine (laws_heldIntSS.calls kj34 _ _ t422 1 t442 _ ?side1 ?side2 A98.out).mono ?_); (case side1 => repeat (first | exact (Kd.N_reads' HO_9.out).2.2 | (with_reducible refine Kd.C_alloc ?_ _) | (with_reducible refine Kd.C_drewN ?_ _) | (with_reducible refine Kd.C_drew ?_))); (case side2 => rw [show t422.length = t394.length from (Kd.N_reads' HO_9.out).1.symm]; exact (Kd.N_reads' HO_9.out).2.1); rintro e w' ⟨rfl, ⟨nd, rfl⟩⟩; refine ⟨_, rfl, ?_⟩))
              go_ret
              exact ⟨zE, zB HB⟩
             ·rw [if_neg c100] at H
              have c100b0 : (t442 == t421) = false := beq_eq_false_iff_ne.mpr c100
              have c100b1 : (t442 != t421) = true := bne_iff_ne.mpr c100
              exact absurd H (by simp [ht_])
           ·replace c97 := Bool.eq_false_iff.mpr c97
            subst c97
            have H1 : (some false) = some r := by rw [if_neg (show ¬ (false = true) by decide)] at H; exact H
            clear H
            have H := H1
            clear H1
            exact absurd H (by simp [ht_])
          ·rw [if_neg c92] at H
           have c92b0 : (t423 == t421) = false := beq_eq_false_iff_ne.mpr c92
           have c92b1 : (t423 != t421) = true := bne_iff_ne.mpr c92
           exact absurd H (by simp [ht_])
     ·replace c32 := Bool.eq_false_iff.mpr c32
      subst c32
      have H1 : (some false) = some r := by rw [if_neg (show ¬ (false = true) by decide)] at H; exact H
      clear H
      have H := H1
      clear H1
      exact absurd H (by simp [ht_])
    ·replace c29 := Bool.eq_false_iff.mpr c29
     subst c29
     have H1 : (some false) = some r := by rw [if_neg (show ¬ (false = true) by decide)] at H; exact H
     clear H
     have H := H1
     clear H1
     exact absurd H (by simp [ht_])
   ·replace c26 := Bool.eq_false_iff.mpr c26
    subst c26
    have H1 : (some false) = some r := by rw [if_neg (show ¬ (false = true) by decide)] at H; exact H
    clear H
    have H := H1
    clear H1
    exact absurd H (by simp [ht_])
/-- What is known of a value of type 69 that came in. -/
def W69 (x : S69) : Prop := (Lit.int .i64 x.f0).wf = true ∧ True ∧ (Lit.int .i64 x.f2).wf = true ∧ (Lit.int .i64 x.f3).wf = true

/-- The pure statement of laws_FnExactPairsOf. -/
def laws_FnExactPairsOf.Pure : Prop := ∀ (a0_0 : Int) (l0_1 : List Bool) (l0_2 : List (S69)) (a1_0 : Int) (l1_1 : List Bool) (l1_2 : List (S69)), (Lit.int .i64 a0_0).wf = true → l0_1.length ≤ 9223372036854775807 → (∀ x ∈ l0_1, True) → l0_2.length ≤ 9223372036854775807 → (∀ x ∈ l0_2, W69 x) → (Lit.int .i64 a1_0).wf = true → l1_1.length ≤ 9223372036854775807 → (∀ x ∈ l1_1, True) → l1_2.length ≤ 9223372036854775807 → (∀ x ∈ l1_2, W69 x) → ∃ k, laws_FnExactPairsOf.f k a0_0 l0_1 l0_2 a1_0 l1_1 l1_2 = some true

end Go.Proofs.Ytmenijbpglknbaa.PFnExactPairsOf
