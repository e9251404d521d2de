-- WRITTEN by pp.py, this session's own wrapper around the print; not trusted: Lean checks it
import Derived.Test.YtjlaogjikkckkaaPFnExactDualOfx0
import Derived.Test.YtjlaogjikkckkaaPFnExactDualOfx1
import Derived.Test.YtjlaogjikkckkaaPFnExactDualOfx2
import Derived.Test.YtjlaogjikkckkaaPFnExactDualOfx3
import Derived.Test.YtjlaogjikkckkaaPFnExactDualOfx4
import Derived.Test.YtjlaogjikkckkaaPFnExactDualOfx5
namespace Go.Proofs.Ytjlaogjikkckkaa.PFnExactDualOf
open Go.RowKit Go.Proofs.Ytjlaogjikkckkaa.Hw Go.Proofs.YtjlaogjikkckkaaW.PrintWords Go.Proofs.YtjlaogjikkckkaaW.PrintLast Go.Proofs.YtjlaogjikkckkaaW.PrintMore
attribute [local go_sem] max2_int min2_int max_two min_two max_three min_three max_four min_four   -- for this text's walks alone
set_option linter.unusedVariables false
set_option linter.unusedSimpArgs false
set_option linter.unusedSectionVars false

/-! ### laws_FnExactDualOf: function 3 -/
def laws_FnExactDualOf.j0 : Nat → Bool → Int → List Bool → List (S74) → Int → List Bool → List (S54) → Int → List Bool → List (S54) → Option (Bool)
 | 0, _, _, _, _, _, _, _, _, _, _ => none
 | k + 1, x42, x191000, x191001, x191002, x207000, x207001, x207002, x223000, x223001, x223002 => if x42 = true then (some false) else ((laws_markMachine.f k x223000 x223001 x223002 1).bind fun bt236 => ((laws_heldMachine.f k x223000 bt236.2.1 bt236.2.2 1).bind fun t239 => (if t239 < 0 then (some false) else (if t239 = bt236.1 then ((laws_toMachine.f k x191000 x191001 x191002).bind fun bt240 => ((impl_DualOf.f k bt240.1 bt240.2.1 bt240.2.2).bind fun bt247 => ((laws_eqMachine.f k bt247.1 bt247.2.1 bt247.2.2 x207000 x207001 x207002).bind fun t255 => (if t255 = true then ((laws_heldMachine.f k x223000 bt236.2.1 bt236.2.2 1).bind fun t256 => (if t256 < 0 then (some false) else (if t256 = bt236.1 then (some true) else (some false)))) else (some false))))) else (some false)))))
def laws_FnExactDualOf.f (k : Nat) (a0_0 : Int) (l0_1 : List Bool) (l0_2 : List (S74)) : Option (Bool) := (laws_szMachine.f a0_0 l0_1 l0_2 1048576).bind fun t191 => (if t191 < 0 then (some true) else ((laws_toMachine.f k a0_0 l0_1 l0_2).bind fun bt192 => ((spec_DualOf.f k bt192.1 bt192.2.1 bt192.2.2).bind fun bt199 => ((laws_toMachine.f k a0_0 l0_1 l0_2).bind fun bt207 => ((impl_DualOf.f k bt207.1 bt207.2.1 bt207.2.2).bind fun bt215 => ((laws_eqMachine.f k bt215.1 bt215.2.1 bt215.2.2 bt199.1 bt199.2.1 bt199.2.2).bind fun t223 => (if t223 = true then ((laws_toMachine.f k a0_0 l0_1 l0_2).bind fun bt224 => ((laws_eqMachine.f k bt207.1 bt207.2.1 bt207.2.2 bt224.1 bt224.2.1 bt224.2.2).bind fun t231 => (if t231 = true then ((laws_markMachine.f k bt207.1 bt207.2.1 bt207.2.2 1).bind fun bt232 => (if bt232.1 < 0 then (laws_FnExactDualOf.j0 k true a0_0 l0_1 l0_2 bt199.1 bt199.2.1 bt199.2.2 bt215.1 bt215.2.1 bt215.2.2) else ((laws_eqMachine.f k bt215.1 bt215.2.1 bt215.2.2 bt199.1 bt199.2.1 bt199.2.2).bind fun t235 => (laws_FnExactDualOf.j0 k (!t235) a0_0 l0_1 l0_2 bt199.1 bt199.2.1 bt199.2.2 bt215.1 bt215.2.1 bt215.2.2)))) else (some false)))) else (some false))))))))
theorem laws_FnExactDualOf.mono_l : ∀ k, (∀ y0 y1 y2 y3 y4 y5 y6 y7 y8 y9, LeO (laws_FnExactDualOf.j0 k y0 y1 y2 y3 y4 y5 y6 y7 y8 y9) (laws_FnExactDualOf.j0 (k + 1) y0 y1 y2 y3 y4 y5 y6 y7 y8 y9))
 | 0 => fun _ _ _ _ _ _ _ _ _ _ r h => by simp [laws_FnExactDualOf.j0] at h
 | k + 1 => by
  have ih0 := laws_FnExactDualOf.mono_l k
  ·intro y0 y1 y2 y3 y4 y5 y6 y7 y8 y9
   unfold laws_FnExactDualOf.j0
   repeat' first
   | (with_reducible exact ih0 _ _ _ _ _ _ _ _ _ _)
   | (with_reducible exact impl_DualOf.mono _ _ _ _)
   | (with_reducible exact laws_eqMachine.mono _ _ _ _ _ _ _)
   | (with_reducible exact laws_heldMachine.mono _ _ _ _ _)
   | (with_reducible exact laws_markMachine.mono _ _ _ _ _)
   | (with_reducible exact laws_toMachine.mono _ _ _ _)
   | (with_reducible exact spec_DualOf.mono _ _ _ _)
   | (with_reducible exact LeO.refl _)
   | (with_reducible exact LeO.none _)
   | (with_reducible refine LeO.ite ?_ ?_)
   | (with_reducible refine LeO.bind ?_ (fun _ => ?_))
   | exact ih0 _ _ _ _ _ _ _ _ _ _
   | exact impl_DualOf.mono _ _ _ _
   | exact laws_eqMachine.mono _ _ _ _ _ _ _
   | exact laws_heldMachine.mono _ _ _ _ _
   | exact laws_markMachine.mono _ _ _ _ _
   | exact laws_toMachine.mono _ _ _ _
   | exact spec_DualOf.mono _ _ _ _
   | exact LeO.none _
   | refine LeO.ite ?_ ?_
   | refine LeO.bind ?_ (fun _ => ?_)
theorem laws_FnExactDualOf.mono : ∀ a0 a1 a2 k, LeO (laws_FnExactDualOf.f k a0 a1 a2) (laws_FnExactDualOf.f (k + 1) a0 a1 a2) := by
 intro a0 a1 a2 k
 have ih0 := laws_FnExactDualOf.mono_l k
 unfold laws_FnExactDualOf.f
 repeat' first
   | (with_reducible exact ih0 _ _ _ _ _ _ _ _ _ _)
   | (with_reducible exact impl_DualOf.mono _ _ _ _)
   | (with_reducible exact laws_eqMachine.mono _ _ _ _ _ _ _)
   | (with_reducible exact laws_heldMachine.mono _ _ _ _ _)
   | (with_reducible exact laws_markMachine.mono _ _ _ _ _)
   | (with_reducible exact laws_toMachine.mono _ _ _ _)
   | (with_reducible exact spec_DualOf.mono _ _ _ _)
   | (with_reducible exact LeO.refl _)
   | (with_reducible exact LeO.none _)
   | (with_reducible refine LeO.ite ?_ ?_)
   | (with_reducible refine LeO.bind ?_ (fun _ => ?_))
   | exact ih0 _ _ _ _ _ _ _ _ _ _
   | exact impl_DualOf.mono _ _ _ _
   | exact laws_eqMachine.mono _ _ _ _ _ _ _
   | exact laws_heldMachine.mono _ _ _ _ _
   | exact laws_markMachine.mono _ _ _ _ _
   | exact laws_toMachine.mono _ _ _ _
   | exact spec_DualOf.mono _ _ _ _
   | exact LeO.none _
   | refine LeO.ite ?_ ?_
   | refine LeO.bind ?_ (fun _ => ?_)
set_option maxHeartbeats 8000000 in
set_option maxRecDepth 100000 in
theorem laws_FnExactDualOf.calls (k : Nat) (a0_0 : Int) (A0_1 : Option Addr) (c0_1 : Nat) (l0_1 : List Bool) (A0_2 : Option Addr) (c0_2 : Nat) (l0_2 : List (S74)) (r : Bool) (w : World) (hr0_1 : Kd.C Kd.bool w A0_1 l0_1.length l0_1) (hc0_1 : l0_1.length ≤ c0_1) (hr0_2 : Kd.C k74 w A0_2 l0_2.length l0_2) (hc0_2 : l0_2.length ≤ c0_2) (ht_ : r = true) (h : laws_FnExactDualOf.f k a0_0 l0_1 l0_2 = some r) :
  Calls Try.prog 3 #[.agg #[.int .i64 a0_0, .slice A0_1 l0_1.length c0_1, .slice A0_2 l0_2.length c0_2]] w fun e w' => e = .returned (.bool r) ∧ Below w.heap.size w w' := by
 have hu25 := Try.underlying25
 have hu29 := Try.underlying29
 have HR0_1 := Aside0.mk hr0_1
 have HC0_1 := Aside0.mk hc0_1
 clear hr0_1 hc0_1
 have HR0_2 := Aside0.mk hr0_2
 have HC0_2 := Aside0.mk hc0_2
 clear hr0_2 hc0_2
 have HB := Aside0.mk (Below.refl w.heap.size w)
 have H : ((laws_szMachine.f a0_0 l0_1 l0_2 1048576).bind fun t191 => (if t191 < 0 then (some true) else ((laws_toMachine.f k a0_0 l0_1 l0_2).bind fun bt192 => ((spec_DualOf.f k bt192.1 bt192.2.1 bt192.2.2).bind fun bt199 => ((laws_toMachine.f k a0_0 l0_1 l0_2).bind fun bt207 => ((impl_DualOf.f k bt207.1 bt207.2.1 bt207.2.2).bind fun bt215 => ((laws_eqMachine.f k bt215.1 bt215.2.1 bt215.2.2 bt199.1 bt199.2.1 bt199.2.2).bind fun t223 => (if t223 = true then ((laws_toMachine.f k a0_0 l0_1 l0_2).bind fun bt224 => ((laws_eqMachine.f k bt207.1 bt207.2.1 bt207.2.2 bt224.1 bt224.2.1 bt224.2.2).bind fun t231 => (if t231 = true then ((laws_markMachine.f k bt207.1 bt207.2.1 bt207.2.2 1).bind fun bt232 => (if bt232.1 < 0 then (laws_FnExactDualOf.j0 k true a0_0 l0_1 l0_2 bt199.1 bt199.2.1 bt199.2.2 bt215.1 bt215.2.1 bt215.2.2) else ((laws_eqMachine.f k bt215.1 bt215.2.1 bt215.2.2 bt199.1 bt199.2.1 bt199.2.2).bind fun t235 => (laws_FnExactDualOf.j0 k (!t235) a0_0 l0_1 l0_2 bt199.1 bt199.2.1 bt199.2.2 bt215.1 bt215.2.1 bt215.2.2)))) else (some false)))) else (some false))))))))) = some r := h
 clear h
 replace H := Option.bind_eq_some_iff.mp H
 obtain ⟨t191, A20, H⟩ := H
 replace H : (if t191 < 0 then (some true) else ((laws_toMachine.f k a0_0 l0_1 l0_2).bind fun bt192 => ((spec_DualOf.f k bt192.1 bt192.2.1 bt192.2.2).bind fun bt199 => ((laws_toMachine.f k a0_0 l0_1 l0_2).bind fun bt207 => ((impl_DualOf.f k bt207.1 bt207.2.1 bt207.2.2).bind fun bt215 => ((laws_eqMachine.f k bt215.1 bt215.2.1 bt215.2.2 bt199.1 bt199.2.1 bt199.2.2).bind fun t223 => (if t223 = true then ((laws_toMachine.f k a0_0 l0_1 l0_2).bind fun bt224 => ((laws_eqMachine.f k bt207.1 bt207.2.1 bt207.2.2 bt224.1 bt224.2.1 bt224.2.2).bind fun t231 => (if t231 = true then ((laws_markMachine.f k bt207.1 bt207.2.1 bt207.2.2 1).bind fun bt232 => (if bt232.1 < 0 then (laws_FnExactDualOf.j0 k true a0_0 l0_1 l0_2 bt199.1 bt199.2.1 bt199.2.2 bt215.1 bt215.2.1 bt215.2.2) else ((laws_eqMachine.f k bt215.1 bt215.2.1 bt215.2.2 bt199.1 bt199.2.1 bt199.2.2).bind fun t235 => (laws_FnExactDualOf.j0 k (!t235) a0_0 l0_1 l0_2 bt199.1 bt199.2.1 bt199.2.2 bt215.1 bt215.2.1 bt215.2.2)))) else (some false)))) else (some false)))))))) = some r := H
 have A2 := Aside0.mk A20
 clear A20
 by_cases c3 : t191 < 0
 ·rw [if_pos c3] at H
  have c3b0 : decide (t191 < 0) = true := decide_eq_true c3
  clear c3
  obtain rfl := Option.some.inj H
  go_enter Try.func3, Try.ntmps3
  go_wp2_with (first | ((with_reducible refine gate_dst (N := 1) rfl ?_); refine box_event ?hg (N := 1) ?hd (cs := #[.int .i64 a0_0, .slice A0_1 l0_1.length c0_1, .slice A0_2 l0_2.length c0_2]) (t := 25) ?hr ?_; (case hd => rfl); (case hg => rfl); (case hr => first | (go_simp; done) | (go_simp; rfl)); intro gb190 hg w4 hbox hb; have n0_ := bS HB hb; have n1_ := Aside0.mk (hbox); have n2_ := gS HB hg; have n3_ := gS HB hg; clear HB; have HB := n0_; have BK190 := n1_; have GW190 := n2_; have GE190 := n3_; clear n0_ n1_ n2_ n3_; clear hb hbox hg; have hcz5_0 := bc0 BK190; have hcz5_1 := bc1 BK190; have hcz5_2 := bc2 BK190; have hfz5_0 := bf BK190 0; have hfz5_1 := bf BK190 1; have hfz5_2 := bf BK190 2) | ((with_reducible refine gate_callee (f := 6) rfl ?_); refine goesL_ (some 13) rfl rfl Try.func6 (by kernel_rfl) rfl #[.agg #[.int .i64 a0_0, .slice A0_1 l0_1.length c0_1, .slice A0_2 l0_2.length c0_2], .int .i64 1048576] rfl zG ?_; (with_reducible refine (laws_szMachine.calls a0_0 _ _ l0_1 _ _ l0_2 1048576 t191 _ ?side1 ?side2 ?side3 ?side4 A2.out).mono ?_); (case side1 => exact cS HR0_1 HB); (case side2 => exact HC0_1.out); (case side3 => exact cS HR0_2 HB); (case side4 => exact HC0_2.out); rintro e w6 ⟨rfl, hb⟩; refine ⟨_, rfl, ?_⟩; have n0_ := kB BK190 hb; have n1_ := bS HB hb; clear BK190; clear HB; have BK190 := n0_; have HB := n1_; clear n0_ n1_; (try clear hb)))
  go_ret
  exact ⟨by first | rfl | (simp [errW_none, errW_some] <;> rfl) | (simp [*, errW_none, errW_some] <;> rfl), by repeat (first | (with_reducible first | exact HB.out | apply below_alloc | apply pw_below_drewN | apply below_drew1 | refine below_set ?_ GE190.out) | exact HB.out)⟩
 ·rw [if_neg c3] at H
  have c3b0 : decide (t191 < 0) = false := decide_eq_false c3
  clear c3
  replace H := Option.bind_eq_some_iff.mp H
  obtain ⟨⟨t192, t193, t196⟩, A70, H⟩ := H
  replace H : ((spec_DualOf.f k t192 t193 t196).bind fun bt199 => ((laws_toMachine.f k a0_0 l0_1 l0_2).bind fun bt207 => ((impl_DualOf.f k bt207.1 bt207.2.1 bt207.2.2).bind fun bt215 => ((laws_eqMachine.f k bt215.1 bt215.2.1 bt215.2.2 bt199.1 bt199.2.1 bt199.2.2).bind fun t223 => (if t223 = true then ((laws_toMachine.f k a0_0 l0_1 l0_2).bind fun bt224 => ((laws_eqMachine.f k bt207.1 bt207.2.1 bt207.2.2 bt224.1 bt224.2.1 bt224.2.2).bind fun t231 => (if t231 = true then ((laws_markMachine.f k bt207.1 bt207.2.1 bt207.2.2 1).bind fun bt232 => (if bt232.1 < 0 then (laws_FnExactDualOf.j0 k true a0_0 l0_1 l0_2 bt199.1 bt199.2.1 bt199.2.2 bt215.1 bt215.2.1 bt215.2.2) else ((laws_eqMachine.f k bt215.1 bt215.2.1 bt215.2.2 bt199.1 bt199.2.1 bt199.2.2).bind fun t235 => (laws_FnExactDualOf.j0 k (!t235) a0_0 l0_1 l0_2 bt199.1 bt199.2.1 bt199.2.2 bt215.1 bt215.2.1 bt215.2.2)))) else (some false)))) else (some false)))))) = some r := H
  have A7 := Aside0.mk A70
  clear A70
  replace H := Option.bind_eq_some_iff.mp H
  obtain ⟨⟨t199, t200, t203⟩, A80, H⟩ := H
  replace H : ((laws_toMachine.f k a0_0 l0_1 l0_2).bind fun bt207 => ((impl_DualOf.f k bt207.1 bt207.2.1 bt207.2.2).bind fun bt215 => ((laws_eqMachine.f k bt215.1 bt215.2.1 bt215.2.2 t199 t200 t203).bind fun t223 => (if t223 = true then ((laws_toMachine.f k a0_0 l0_1 l0_2).bind fun bt224 => ((laws_eqMachine.f k bt207.1 bt207.2.1 bt207.2.2 bt224.1 bt224.2.1 bt224.2.2).bind fun t231 => (if t231 = true then ((laws_markMachine.f k bt207.1 bt207.2.1 bt207.2.2 1).bind fun bt232 => (if bt232.1 < 0 then (laws_FnExactDualOf.j0 k true a0_0 l0_1 l0_2 t199 t200 t203 bt215.1 bt215.2.1 bt215.2.2) else ((laws_eqMachine.f k bt215.1 bt215.2.1 bt215.2.2 t199 t200 t203).bind fun t235 => (laws_FnExactDualOf.j0 k (!t235) a0_0 l0_1 l0_2 t199 t200 t203 bt215.1 bt215.2.1 bt215.2.2)))) else (some false)))) else (some false))))) = some r := H
  have A8 := Aside0.mk A80
  clear A80
  replace H := Option.bind_eq_some_iff.mp H
  obtain ⟨⟨t207, t208, t211⟩, A90, H⟩ := H
  replace H : ((impl_DualOf.f k t207 t208 t211).bind fun bt215 => ((laws_eqMachine.f k bt215.1 bt215.2.1 bt215.2.2 t199 t200 t203).bind fun t223 => (if t223 = true then ((laws_toMachine.f k a0_0 l0_1 l0_2).bind fun bt224 => ((laws_eqMachine.f k t207 t208 t211 bt224.1 bt224.2.1 bt224.2.2).bind fun t231 => (if t231 = true then ((laws_markMachine.f k t207 t208 t211 1).bind fun bt232 => (if bt232.1 < 0 then (laws_FnExactDualOf.j0 k true a0_0 l0_1 l0_2 t199 t200 t203 bt215.1 bt215.2.1 bt215.2.2) else ((laws_eqMachine.f k bt215.1 bt215.2.1 bt215.2.2 t199 t200 t203).bind fun t235 => (laws_FnExactDualOf.j0 k (!t235) a0_0 l0_1 l0_2 t199 t200 t203 bt215.1 bt215.2.1 bt215.2.2)))) else (some false)))) else (some false)))) = some r := H
  have A9 := Aside0.mk A90
  clear A90
  replace H := Option.bind_eq_some_iff.mp H
  obtain ⟨⟨t215, t216, t219⟩, A100, H⟩ := H
  replace H : ((laws_eqMachine.f k t215 t216 t219 t199 t200 t203).bind fun t223 => (if t223 = true then ((laws_toMachine.f k a0_0 l0_1 l0_2).bind fun bt224 => ((laws_eqMachine.f k t207 t208 t211 bt224.1 bt224.2.1 bt224.2.2).bind fun t231 => (if t231 = true then ((laws_markMachine.f k t207 t208 t211 1).bind fun bt232 => (if bt232.1 < 0 then (laws_FnExactDualOf.j0 k true a0_0 l0_1 l0_2 t199 t200 t203 t215 t216 t219) else ((laws_eqMachine.f k t215 t216 t219 t199 t200 t203).bind fun t235 => (laws_FnExactDualOf.j0 k (!t235) a0_0 l0_1 l0_2 t199 t200 t203 t215 t216 t219)))) else (some false)))) else (some false))) = some r := H
  have A10 := Aside0.mk A100
  clear A100
  replace H := Option.bind_eq_some_iff.mp H
  obtain ⟨t223, A110, H⟩ := H
  replace H : (if t223 = true then ((laws_toMachine.f k a0_0 l0_1 l0_2).bind fun bt224 => ((laws_eqMachine.f k t207 t208 t211 bt224.1 bt224.2.1 bt224.2.2).bind fun t231 => (if t231 = true then ((laws_markMachine.f k t207 t208 t211 1).bind fun bt232 => (if bt232.1 < 0 then (laws_FnExactDualOf.j0 k true a0_0 l0_1 l0_2 t199 t200 t203 t215 t216 t219) else ((laws_eqMachine.f k t215 t216 t219 t199 t200 t203).bind fun t235 => (laws_FnExactDualOf.j0 k (!t235) a0_0 l0_1 l0_2 t199 t200 t203 t215 t216 t219)))) else (some false)))) else (some false)) = some r := H
  have A11 := Aside0.mk A110
  clear A110
  by_cases c12 : t223 = true
  ·subst c12
   have H1 : ((laws_toMachine.f k a0_0 l0_1 l0_2).bind fun bt224 => ((laws_eqMachine.f k t207 t208 t211 bt224.1 bt224.2.1 bt224.2.2).bind fun t231 => (if t231 = true then ((laws_markMachine.f k t207 t208 t211 1).bind fun bt232 => (if bt232.1 < 0 then (laws_FnExactDualOf.j0 k true a0_0 l0_1 l0_2 t199 t200 t203 t215 t216 t219) else ((laws_eqMachine.f k t215 t216 t219 t199 t200 t203).bind fun t235 => (laws_FnExactDualOf.j0 k (!t235) a0_0 l0_1 l0_2 t199 t200 t203 t215 t216 t219)))) else (some false)))) = some r := by rw [if_pos rfl] at H; exact H
   clear H
   have H := H1
   clear H1
   replace H := Option.bind_eq_some_iff.mp H
   obtain ⟨⟨t224, t225, t228⟩, A130, H⟩ := H
   replace H : ((laws_eqMachine.f k t207 t208 t211 t224 t225 t228).bind fun t231 => (if t231 = true then ((laws_markMachine.f k t207 t208 t211 1).bind fun bt232 => (if bt232.1 < 0 then (laws_FnExactDualOf.j0 k true a0_0 l0_1 l0_2 t199 t200 t203 t215 t216 t219) else ((laws_eqMachine.f k t215 t216 t219 t199 t200 t203).bind fun t235 => (laws_FnExactDualOf.j0 k (!t235) a0_0 l0_1 l0_2 t199 t200 t203 t215 t216 t219)))) else (some false))) = some r := H
   have A13 := Aside0.mk A130
   clear A130
   replace H := Option.bind_eq_some_iff.mp H
   obtain ⟨t231, A140, H⟩ := H
   replace H : (if t231 = true then ((laws_markMachine.f k t207 t208 t211 1).bind fun bt232 => (if bt232.1 < 0 then (laws_FnExactDualOf.j0 k true a0_0 l0_1 l0_2 t199 t200 t203 t215 t216 t219) else ((laws_eqMachine.f k t215 t216 t219 t199 t200 t203).bind fun t235 => (laws_FnExactDualOf.j0 k (!t235) a0_0 l0_1 l0_2 t199 t200 t203 t215 t216 t219)))) else (some false)) = some r := H
   have A14 := Aside0.mk A140
   clear A140
   by_cases c15 : t231 = true
   ·subst c15
    have H1 : ((laws_markMachine.f k t207 t208 t211 1).bind fun bt232 => (if bt232.1 < 0 then (laws_FnExactDualOf.j0 k true a0_0 l0_1 l0_2 t199 t200 t203 t215 t216 t219) else ((laws_eqMachine.f k t215 t216 t219 t199 t200 t203).bind fun t235 => (laws_FnExactDualOf.j0 k (!t235) a0_0 l0_1 l0_2 t199 t200 t203 t215 t216 t219)))) = some r := by rw [if_pos rfl] at H; exact H
    clear H
    have H := H1
    clear H1
    replace H := Option.bind_eq_some_iff.mp H
    obtain ⟨⟨t232, t233, t234⟩, A160, H⟩ := H
    replace H : (if t232 < 0 then (laws_FnExactDualOf.j0 k true a0_0 l0_1 l0_2 t199 t200 t203 t215 t216 t219) else ((laws_eqMachine.f k t215 t216 t219 t199 t200 t203).bind fun t235 => (laws_FnExactDualOf.j0 k (!t235) a0_0 l0_1 l0_2 t199 t200 t203 t215 t216 t219))) = some r := H
    have A16 := Aside0.mk A160
    clear A160
    have HC17 := Aside0.mk H
    clear H
    go_enter Try.func3, Try.ntmps3
    try go_wp2_with (first | ((with_reducible refine gate_dst (N := 1) rfl ?_); refine box_event ?hg (N := 1) ?hd (cs := #[.int .i64 a0_0, .slice A0_1 l0_1.length c0_1, .slice A0_2 l0_2.length c0_2]) (t := 25) ?hr ?_; (case hd => rfl); (case hg => rfl); (case hr => first | (go_simp; done) | (go_simp; rfl)); intro gb190 hg w18 hbox hb; have n0_ := bS HB hb; have n1_ := Aside0.mk (hbox); have n2_ := gS HB hg; have n3_ := gS HB hg; clear HB; have HB := n0_; have BK190 := n1_; have GW190 := n2_; have GE190 := n3_; clear n0_ n1_ n2_ n3_; clear hb hbox hg; have hcz19_0 := bc0 BK190; have hcz19_1 := bc1 BK190; have hcz19_2 := bc2 BK190; have hfz19_0 := bf BK190 0; have hfz19_1 := bf BK190 1; have hfz19_2 := bf BK190 2) | ((with_reducible refine gate_callee (f := 6) rfl ?_); refine goesL_ (some 13) rfl rfl Try.func6 (by kernel_rfl) rfl #[.agg #[.int .i64 a0_0, .slice A0_1 l0_1.length c0_1, .slice A0_2 l0_2.length c0_2], .int .i64 1048576] rfl zG ?_; (with_reducible refine (laws_szMachine.calls a0_0 _ _ l0_1 _ _ l0_2 1048576 t191 _ ?side1 ?side2 ?side3 ?side4 A2.out).mono ?_); (case side1 => exact cS HR0_1 HB); (case side2 => exact HC0_1.out); (case side3 => exact cS HR0_2 HB); (case side4 => exact HC0_2.out); rintro e w20 ⟨rfl, hb⟩; refine ⟨_, rfl, ?_⟩; have n0_ := kB BK190 hb; have n1_ := bS HB hb; clear BK190; clear HB; have BK190 := n0_; have HB := n1_; clear n0_ n1_; (try clear hb); have hcz21_0 := bc0 BK190; have hcz21_1 := bc1 BK190; have hcz21_2 := bc2 BK190; have hfz21_0 := bf BK190 0; have hfz21_1 := bf BK190 1; have hfz21_2 := bf BK190 2) | ((with_reducible refine gate_callee (f := 8) rfl ?_); refine goesL_ (some 17) rfl rfl Try.func8 (by kernel_rfl) rfl #[.agg #[.int .i64 a0_0, .slice A0_1 l0_1.length c0_1, .slice A0_2 l0_2.length c0_2]] rfl zG ?_; (with_reducible refine (laws_toMachine.calls k a0_0 _ _ l0_1 _ _ l0_2 t192 t193 t196 _ ?side1 ?side2 ?side3 ?side4 A7.out).mono ?_); (case side1 => exact cS HR0_1 HB); (case side2 => exact HC0_1.out); (case side3 => exact cS HR0_2 HB); (case side4 => exact HC0_2.out); rintro e w22 ⟨v194, v197, rfl, ho0, ho1, hb⟩; refine ⟨_, rfl, ?_⟩; have n0_ := Aside0.mk (Kd.R_lower ho0 (below_size (zB HB))); have n1_ := Aside0.mk (Kd.R_lower ho1 (below_size (zB HB))); have n2_ := kB BK190 hb; have n3_ := bS HB hb; clear BK190; clear HB; have HO195 := n0_; have HO198 := n1_; have BK190 := n2_; have HB := n3_; clear n0_ n1_ n2_ n3_; (try clear hb); (try clear ho0); (try clear ho1); obtain ⟨Ao23, co23, eo23⟩ := Kd.R_slice HO195.out; subst eo23; obtain ⟨Ao24, co24, eo24⟩ := Kd.R_slice HO198.out; subst eo24) | ((with_reducible refine gate_callee (f := 7) rfl ?_); refine goesL_ (some 18) rfl rfl Try.func7 (by kernel_rfl) rfl #[.agg #[.int .i64 t192, .slice Ao23 t193.length co23, .slice Ao24 t196.length co24]] rfl zG ?_; (with_reducible refine (spec_DualOf.calls k t192 _ _ t193 _ _ t196 t199 t200 t203 _ ?side1 ?side2 ?side3 ?side4 A8.out).mono ?_); (case side1 => repeat (first | exact (Kd.R_reads' HO195.out).2.2 | (with_reducible refine Kd.C_alloc ?_ _) | (with_reducible refine Kd.C_drewN ?_ _) | (with_reducible refine Kd.C_drew ?_))); (case side2 => exact (Kd.R_reads' HO195.out).2.1); (case side3 => repeat (first | exact (Kd.R_reads' HO198.out).2.2 | (with_reducible refine Kd.C_alloc ?_ _) | (with_reducible refine Kd.C_drewN ?_ _) | (with_reducible refine Kd.C_drew ?_))); (case side4 => exact (Kd.R_reads' HO198.out).2.1); rintro e w25 ⟨v201, v204, rfl, ho0, ho1, hb⟩; refine ⟨_, rfl, ?_⟩; have n0_ := Aside0.mk (Kd.R_elder' (zR HO195) (Kd.R_base ho0) hb); have n1_ := Aside0.mk (Kd.R_elder' (zR HO198) (Kd.R_base ho1) hb); have n2_ := Aside0.mk (Kd.R_lower (Kd.R_new' ho0 (Kd.R_lt (zR HO195))) (below_size (zB HB))); have n3_ := Aside0.mk (Kd.R_lower (Kd.R_new' ho1 (Kd.R_lt (zR HO198))) (below_size (zB HB))); have n4_ := kB BK190 hb; have n5_ := bS HB hb; clear HO195; clear HO198; clear BK190; clear HB; have HO195 := n0_; have HO198 := n1_; have HO202 := n2_; have HO205 := n3_; have BK190 := n4_; have HB := n5_; clear n0_ n1_ n2_ n3_ n4_ n5_; (try clear hb); (try clear ho0); (try clear ho1)) | ((with_reducible refine gate_dst (N := 4) rfl ?_); refine box_event ?hg (N := 4) ?hd (cs := #[.int .i64 0, .slice none 0 0, .slice none 0 0]) (t := 29) ?hr ?_; (case hd => rfl); (case hg => rfl); (case hr => first | (go_simp; done) | (go_simp; rfl)); intro gb206 hg w26 hbox hb; have n0_ := Aside0.mk (Kd.R_below (zR HO195) hb); have n1_ := Aside0.mk (Kd.R_below (zR HO198) hb); have n2_ := Aside0.mk (Kd.R_below (zR HO202) hb); have n3_ := Aside0.mk (Kd.R_below (zR HO205) hb); have n4_ := kB BK190 hb; have n5_ := bS HB hb; have n6_ := Aside0.mk (hbox); have n7_ := gS HB hg; have n8_ := gS HB hg; have n9_ := Aside0.mk ((by rw [hg]; exact Nat.ne_of_lt (blk_lt (g := gb190) (o := .cells #[.int .i64 a0_0, .slice A0_1 l0_1.length c0_1, .slice A0_2 l0_2.length c0_2] 25 (0, 0)) (zK BK190)) : gb190 ≠ gb206)); have n10_ := Aside0.mk ((by rw [hg]; exact Nat.ne_of_gt (blk_lt (g := gb190) (o := .cells #[.int .i64 a0_0, .slice A0_1 l0_1.length c0_1, .slice A0_2 l0_2.length c0_2] 25 (0, 0)) (zK BK190)) : gb206 ≠ gb190)); clear HO195; clear HO198; clear HO202; clear HO205; clear BK190; clear HB; have HO195 := n0_; have HO198 := n1_; have HO202 := n2_; have HO205 := n3_; have BK190 := n4_; have HB := n5_; have BK206 := n6_; have GW206 := n7_; have GE206 := n8_; have NB190_206 := n9_; have NB206_190 := n10_; clear n0_ n1_ n2_ n3_ n4_ n5_ n6_ n7_ n8_ n9_ n10_; clear hb hbox hg; have hnb27 := NB206_190.out; have hnc27 := NB190_206.out; have hcz28_0 := bc0 BK206; have hcz28_1 := bc1 BK206; have hcz28_2 := bc2 BK206; have hfz28_0 := bf BK206 0; have hfz28_1 := bf BK206 1; have hfz28_2 := bf BK206 2; obtain ⟨Ao29, co29, eo29⟩ := Kd.R_slice HO202.out; subst eo29; obtain ⟨Ao30, co30, eo30⟩ := Kd.R_slice HO205.out; subst eo30; have hcz31_0 := bc0 BK190; have hcz31_1 := bc1 BK190; have hcz31_2 := bc2 BK190; have hfz31_0 := bf BK190 0; have hfz31_1 := bf BK190 1; have hfz31_2 := bf BK190 2) | ((with_reducible refine gate_callee (f := 8) rfl ?_); refine goesL_ (some 20) rfl rfl Try.func8 (by kernel_rfl) rfl #[.agg #[.int .i64 a0_0, .slice A0_1 l0_1.length c0_1, .slice A0_2 l0_2.length c0_2]] rfl zG ?_; (with_reducible refine (laws_toMachine.calls k a0_0 _ _ l0_1 _ _ l0_2 t207 t208 t211 _ ?side1 ?side2 ?side3 ?side4 A9.out).mono ?_); (case side1 => exact Kd.C_below HR0_1.out (zB HB)); (case side2 => exact HC0_1.out); (case side3 => exact Kd.C_below HR0_2.out (zB HB)); (case side4 => exact HC0_2.out); rintro e w32 ⟨v209, v212, rfl, ho0, ho1, hb⟩; refine ⟨_, rfl, ?_⟩; have n0_ := Aside0.mk (Kd.R_elder' (by (with_reducible repeat (first | apply Kd.R_alloc | apply Kd.R_drewN | apply Kd.R_drew)); exact (Kd.R_mono (Kd.R_far (p := ⟨gb206, 2, none⟩) (Kd.R_far (p := ⟨gb206, 1, none⟩) (Kd.R_far (p := ⟨gb206, 0, none⟩) (Kd.R_types HO195.out BK206.out (by decide)) (fun _ hk => hk.2) (.int .i64 t199)) (fun _ hk => hk.2) (.slice Ao29 t200.length co29)) (fun _ hk => hk.2) (.slice Ao30 t203.length co30)) (fun _ h_ => h_.1))) (Kd.R_base ho0) hb); have n1_ := Aside0.mk (Kd.R_elder' (by (with_reducible repeat (first | apply Kd.R_alloc | apply Kd.R_drewN | apply Kd.R_drew)); exact (Kd.R_mono (Kd.R_far (p := ⟨gb206, 2, none⟩) (Kd.R_far (p := ⟨gb206, 1, none⟩) (Kd.R_far (p := ⟨gb206, 0, none⟩) (Kd.R_types HO198.out BK206.out (by decide)) (fun _ hk => hk.2) (.int .i64 t199)) (fun _ hk => hk.2) (.slice Ao29 t200.length co29)) (fun _ hk => hk.2) (.slice Ao30 t203.length co30)) (fun _ h_ => h_.1))) (Kd.R_base ho1) hb); have n2_ := Aside0.mk (Kd.R_elder' (by (with_reducible repeat (first | apply Kd.R_alloc | apply Kd.R_drewN | apply Kd.R_drew)); exact (Kd.R_mono (Kd.R_far (p := ⟨gb206, 2, none⟩) (Kd.R_far (p := ⟨gb206, 1, none⟩) (Kd.R_far (p := ⟨gb206, 0, none⟩) (Kd.R_types HO202.out BK206.out (by decide)) (fun _ hk => hk.2) (.int .i64 t199)) (fun _ hk => hk.2) (.slice Ao29 t200.length co29)) (fun _ hk => hk.2) (.slice Ao30 t203.length co30)) (fun _ h_ => h_.1))) (Kd.R_base ho0) hb); have n3_ := Aside0.mk (Kd.R_elder' (by (with_reducible repeat (first | apply Kd.R_alloc | apply Kd.R_drewN | apply Kd.R_drew)); exact (Kd.R_mono (Kd.R_far (p := ⟨gb206, 2, none⟩) (Kd.R_far (p := ⟨gb206, 1, none⟩) (Kd.R_far (p := ⟨gb206, 0, none⟩) (Kd.R_types HO205.out BK206.out (by decide)) (fun _ hk => hk.2) (.int .i64 t199)) (fun _ hk => hk.2) (.slice Ao29 t200.length co29)) (fun _ hk => hk.2) (.slice Ao30 t203.length co30)) (fun _ h_ => h_.1))) (Kd.R_base ho1) hb); have n4_ := Aside0.mk (Kd.R_lower (Kd.R_new' (Kd.R_new' ho0 (Kd.R_lt (by (with_reducible repeat (first | apply Kd.R_alloc | apply Kd.R_drewN | apply Kd.R_drew)); exact (Kd.R_mono (Kd.R_far (p := ⟨gb206, 2, none⟩) (Kd.R_far (p := ⟨gb206, 1, none⟩) (Kd.R_far (p := ⟨gb206, 0, none⟩) (Kd.R_types HO195.out BK206.out (by decide)) (fun _ hk => hk.2) (.int .i64 t199)) (fun _ hk => hk.2) (.slice Ao29 t200.length co29)) (fun _ hk => hk.2) (.slice Ao30 t203.length co30)) (fun _ h_ => h_.1))))) (Kd.R_lt (by (with_reducible repeat (first | apply Kd.R_alloc | apply Kd.R_drewN | apply Kd.R_drew)); exact (Kd.R_mono (Kd.R_far (p := ⟨gb206, 2, none⟩) (Kd.R_far (p := ⟨gb206, 1, none⟩) (Kd.R_far (p := ⟨gb206, 0, none⟩) (Kd.R_types HO202.out BK206.out (by decide)) (fun _ hk => hk.2) (.int .i64 t199)) (fun _ hk => hk.2) (.slice Ao29 t200.length co29)) (fun _ hk => hk.2) (.slice Ao30 t203.length co30)) (fun _ h_ => h_.1))))) (below_size (zB HB))); have n5_ := Aside0.mk (Kd.R_lower (Kd.R_new' (Kd.R_new' ho1 (Kd.R_lt (by (with_reducible repeat (first | apply Kd.R_alloc | apply Kd.R_drewN | apply Kd.R_drew)); exact (Kd.R_mono (Kd.R_far (p := ⟨gb206, 2, none⟩) (Kd.R_far (p := ⟨gb206, 1, none⟩) (Kd.R_far (p := ⟨gb206, 0, none⟩) (Kd.R_types HO198.out BK206.out (by decide)) (fun _ hk => hk.2) (.int .i64 t199)) (fun _ hk => hk.2) (.slice Ao29 t200.length co29)) (fun _ hk => hk.2) (.slice Ao30 t203.length co30)) (fun _ h_ => h_.1))))) (Kd.R_lt (by (with_reducible repeat (first | apply Kd.R_alloc | apply Kd.R_drewN | apply Kd.R_drew)); exact (Kd.R_mono (Kd.R_far (p := ⟨gb206, 2, none⟩) (Kd.R_far (p := ⟨gb206, 1, none⟩) (Kd.R_far (p := ⟨gb206, 0, none⟩) (Kd.R_types HO205.out BK206.out (by decide)) (fun _ hk => hk.2) (.int .i64 t199)) (fun _ hk => hk.2) (.slice Ao29 t200.length co29)) (fun _ hk => hk.2) (.slice Ao30 t203.length co30)) (fun _ h_ => h_.1))))) (below_size (zB HB))); have n6_ := Aside0.mk (blk_below (g := gb190) (o := .cells #[.int .i64 a0_0, .slice A0_1 l0_1.length c0_1, .slice A0_2 l0_2.length c0_2] 25 (0, 0)) (by (with_reducible repeat (first | refine blk_drewN ?_ _ | refine blk_drew ?_ | refine blk_alloc ?_ _)); refine blk_far ?_ NB190_206.out _; (with_reducible repeat (first | refine blk_drewN ?_ _ | refine blk_drew ?_ | refine blk_alloc ?_ _)); refine blk_far ?_ NB190_206.out _; (with_reducible repeat (first | refine blk_drewN ?_ _ | refine blk_drew ?_ | refine blk_alloc ?_ _)); refine blk_far ?_ NB190_206.out _; (with_reducible repeat (first | refine blk_drewN ?_ _ | refine blk_drew ?_ | refine blk_alloc ?_ _)); exact BK190.out) hb); have n7_ := Aside0.mk (blk_below (g := gb206) (o := .cells #[.int .i64 t199, .slice Ao29 t200.length co29, .slice Ao30 t203.length co30] 29 (0, 0)) (by (with_reducible repeat (first | refine blk_drewN ?_ _ | refine blk_drew ?_ | refine blk_alloc ?_ _)); refine blk_put (cs := #[.int .i64 t199, .slice Ao29 t200.length co29, .slice none 0 0]) ?_ 2 _ rfl; (with_reducible repeat (first | refine blk_drewN ?_ _ | refine blk_drew ?_ | refine blk_alloc ?_ _)); refine blk_put (cs := #[.int .i64 t199, .slice none 0 0, .slice none 0 0]) ?_ 1 _ rfl; (with_reducible repeat (first | refine blk_drewN ?_ _ | refine blk_drew ?_ | refine blk_alloc ?_ _)); refine blk_put (cs := #[.int .i64 0, .slice none 0 0, .slice none 0 0]) ?_ 0 _ rfl; (with_reducible repeat (first | refine blk_drewN ?_ _ | refine blk_drew ?_ | refine blk_alloc ?_ _)); exact BK206.out) hb); have n8_ := bS HB hb; clear HO195; clear HO198; clear HO202; clear HO205; clear BK190; clear BK206; clear HB; have HO195 := n0_; have HO198 := n1_; have HO202 := n2_; have HO205 := n3_; have HO210 := n4_; have HO213 := n5_; have BK190 := n6_; have BK206 := n7_; have HB := n8_; clear n0_ n1_ n2_ n3_ n4_ n5_ n6_ n7_ n8_; (try clear hb); (try clear ho0); (try clear ho1)) | ((with_reducible refine gate_dst (N := 5) rfl ?_); refine box_event ?hg (N := 5) ?hd (cs := #[.int .i64 0, .slice none 0 0, .slice none 0 0]) (t := 29) ?hr ?_; (case hd => rfl); (case hg => rfl); (case hr => first | (go_simp; done) | (go_simp; rfl)); intro gb214 hg w33 hbox hb; have n0_ := Aside0.mk (Kd.R_below (zR HO195) hb); have n1_ := Aside0.mk (Kd.R_below (zR HO198) hb); have n2_ := Aside0.mk (Kd.R_below (zR HO202) hb); have n3_ := Aside0.mk (Kd.R_below (zR HO205) hb); have n4_ := Aside0.mk (Kd.R_below (zR HO210) hb); have n5_ := Aside0.mk (Kd.R_below (zR HO213) hb); have n6_ := kB BK190 hb; have n7_ := kB BK206 hb; have n8_ := bS HB hb; have n9_ := Aside0.mk (hbox); have n10_ := gS HB hg; have n11_ := gS HB hg; have n12_ := Aside0.mk ((by rw [hg]; exact Nat.ne_of_lt (blk_lt (g := gb190) (o := .cells #[.int .i64 a0_0, .slice A0_1 l0_1.length c0_1, .slice A0_2 l0_2.length c0_2] 25 (0, 0)) (zK BK190)) : gb190 ≠ gb214)); have n13_ := Aside0.mk ((by rw [hg]; exact Nat.ne_of_gt (blk_lt (g := gb190) (o := .cells #[.int .i64 a0_0, .slice A0_1 l0_1.length c0_1, .slice A0_2 l0_2.length c0_2] 25 (0, 0)) (zK BK190)) : gb214 ≠ gb190)); have n14_ := Aside0.mk ((by rw [hg]; exact Nat.ne_of_lt (blk_lt (g := gb206) (o := .cells #[.int .i64 t199, .slice Ao29 t200.length co29, .slice Ao30 t203.length co30] 29 (0, 0)) (zK BK206)) : gb206 ≠ gb214)); have n15_ := Aside0.mk ((by rw [hg]; exact Nat.ne_of_gt (blk_lt (g := gb206) (o := .cells #[.int .i64 t199, .slice Ao29 t200.length co29, .slice Ao30 t203.length co30] 29 (0, 0)) (zK BK206)) : gb214 ≠ gb206)); clear HO195; clear HO198; clear HO202; clear HO205; clear HO210; clear HO213; clear BK190; clear BK206; clear HB; have HO195 := n0_; have HO198 := n1_; have HO202 := n2_; have HO205 := n3_; have HO210 := n4_; have HO213 := n5_; have BK190 := n6_; have BK206 := n7_; have HB := n8_; have BK214 := n9_; have GW214 := n10_; have GE214 := n11_; have NB190_214 := n12_; have NB214_190 := n13_; have NB206_214 := n14_; have NB214_206 := n15_; clear n0_ n1_ n2_ n3_ n4_ n5_ n6_ n7_ n8_ n9_ n10_ n11_ n12_ n13_ n14_ n15_; clear hb hbox hg; have hnb34 := NB214_190.out; have hnc34 := NB190_214.out; have hnb35 := NB214_206.out; have hnc35 := NB206_214.out; have hcz36_0 := bc0 BK214; have hcz36_1 := bc1 BK214; have hcz36_2 := bc2 BK214; have hfz36_0 := bf BK214 0; have hfz36_1 := bf BK214 1; have hfz36_2 := bf BK214 2; obtain ⟨Ao37, co37, eo37⟩ := Kd.R_slice HO210.out; subst eo37; obtain ⟨Ao38, co38, eo38⟩ := Kd.R_slice HO213.out; subst eo38) | ((with_reducible refine gate_callee (f := 9) rfl ?_); refine goesL_ (some 22) rfl rfl Try.func9 (by kernel_rfl) rfl #[.agg #[.int .i64 t207, .slice Ao37 t208.length co37, .slice Ao38 t211.length co38]] rfl zG ?_; (with_reducible refine (impl_DualOf.calls k t207 _ _ t208 _ _ t211 t215 t216 t219 _ ?side1 ?side2 ?side3 ?side4 A10.out).mono ?_); (case side1 => refine (Kd.R_reads' (e := 4) (base := w.heap.size) (ok := fun k_ => ((True ∧ some k_ ≠ (.slice Ao23 t193.length co23 : Value).ownBlock) ∧ some k_ ≠ (.slice Ao29 t200.length co29 : Value).ownBlock)) (n := t208.length) (c := co37) ?_).2.2; exact (by (with_reducible repeat (first | apply Kd.R_alloc | apply Kd.R_drewN | apply Kd.R_drew)); exact (Kd.R_mono (Kd.R_far (p := ⟨gb214, 2, none⟩) (Kd.R_far (p := ⟨gb214, 1, none⟩) (Kd.R_far (p := ⟨gb214, 0, none⟩) (Kd.R_types HO210.out BK214.out (by decide)) (fun _ hk => hk.2) (.int .i64 t207)) (fun _ hk => hk.2) (.slice Ao37 t208.length co37)) (fun _ hk => hk.2) (.slice Ao38 t211.length co38)) (fun _ h_ => h_.1)))); (case side2 => exact (Kd.R_reads' HO210.out).2.1); (case side3 => refine (Kd.R_reads' (e := 54) (base := w.heap.size) (ok := fun k_ => ((True ∧ some k_ ≠ (.slice Ao24 t196.length co24 : Value).ownBlock) ∧ some k_ ≠ (.slice Ao30 t203.length co30 : Value).ownBlock)) (n := t211.length) (c := co38) ?_).2.2; exact (by (with_reducible repeat (first | apply Kd.R_alloc | apply Kd.R_drewN | apply Kd.R_drew)); exact (Kd.R_mono (Kd.R_far (p := ⟨gb214, 2, none⟩) (Kd.R_far (p := ⟨gb214, 1, none⟩) (Kd.R_far (p := ⟨gb214, 0, none⟩) (Kd.R_types HO213.out BK214.out (by decide)) (fun _ hk => hk.2) (.int .i64 t207)) (fun _ hk => hk.2) (.slice Ao37 t208.length co37)) (fun _ hk => hk.2) (.slice Ao38 t211.length co38)) (fun _ h_ => h_.1)))); (case side4 => exact (Kd.R_reads' HO213.out).2.1); rintro e w39 ⟨v217, v220, rfl, ho0, ho1, hb⟩; refine ⟨_, rfl, ?_⟩; have n0_ := Aside0.mk (Kd.R_elder' (by (with_reducible repeat (first | apply Kd.R_alloc | apply Kd.R_drewN | apply Kd.R_drew)); exact (Kd.R_mono (Kd.R_far (p := ⟨gb214, 2, none⟩) (Kd.R_far (p := ⟨gb214, 1, none⟩) (Kd.R_far (p := ⟨gb214, 0, none⟩) (Kd.R_types HO195.out BK214.out (by decide)) (fun _ hk => hk.2) (.int .i64 t207)) (fun _ hk => hk.2) (.slice Ao37 t208.length co37)) (fun _ hk => hk.2) (.slice Ao38 t211.length co38)) (fun _ h_ => h_.1))) (Kd.R_base ho0) hb); have n1_ := Aside0.mk (Kd.R_elder' (by (with_reducible repeat (first | apply Kd.R_alloc | apply Kd.R_drewN | apply Kd.R_drew)); exact (Kd.R_mono (Kd.R_far (p := ⟨gb214, 2, none⟩) (Kd.R_far (p := ⟨gb214, 1, none⟩) (Kd.R_far (p := ⟨gb214, 0, none⟩) (Kd.R_types HO198.out BK214.out (by decide)) (fun _ hk => hk.2) (.int .i64 t207)) (fun _ hk => hk.2) (.slice Ao37 t208.length co37)) (fun _ hk => hk.2) (.slice Ao38 t211.length co38)) (fun _ h_ => h_.1))) (Kd.R_base ho1) hb); have n2_ := Aside0.mk (Kd.R_elder' (by (with_reducible repeat (first | apply Kd.R_alloc | apply Kd.R_drewN | apply Kd.R_drew)); exact (Kd.R_mono (Kd.R_far (p := ⟨gb214, 2, none⟩) (Kd.R_far (p := ⟨gb214, 1, none⟩) (Kd.R_far (p := ⟨gb214, 0, none⟩) (Kd.R_types HO202.out BK214.out (by decide)) (fun _ hk => hk.2) (.int .i64 t207)) (fun _ hk => hk.2) (.slice Ao37 t208.length co37)) (fun _ hk => hk.2) (.slice Ao38 t211.length co38)) (fun _ h_ => h_.1))) (Kd.R_base ho0) hb); have n3_ := Aside0.mk (Kd.R_elder' (by (with_reducible repeat (first | apply Kd.R_alloc | apply Kd.R_drewN | apply Kd.R_drew)); exact (Kd.R_mono (Kd.R_far (p := ⟨gb214, 2, none⟩) (Kd.R_far (p := ⟨gb214, 1, none⟩) (Kd.R_far (p := ⟨gb214, 0, none⟩) (Kd.R_types HO205.out BK214.out (by decide)) (fun _ hk => hk.2) (.int .i64 t207)) (fun _ hk => hk.2) (.slice Ao37 t208.length co37)) (fun _ hk => hk.2) (.slice Ao38 t211.length co38)) (fun _ h_ => h_.1))) (Kd.R_base ho1) hb); have n4_ := Aside0.mk (Kd.R_elder' (by (with_reducible repeat (first | apply Kd.R_alloc | apply Kd.R_drewN | apply Kd.R_drew)); exact (Kd.R_mono (Kd.R_far (p := ⟨gb214, 2, none⟩) (Kd.R_far (p := ⟨gb214, 1, none⟩) (Kd.R_far (p := ⟨gb214, 0, none⟩) (Kd.R_types HO210.out BK214.out (by decide)) (fun _ hk => hk.2) (.int .i64 t207)) (fun _ hk => hk.2) (.slice Ao37 t208.length co37)) (fun _ hk => hk.2) (.slice Ao38 t211.length co38)) (fun _ h_ => h_.1))) (Kd.R_base ho0) hb); have n5_ := Aside0.mk (Kd.R_elder' (by (with_reducible repeat (first | apply Kd.R_alloc | apply Kd.R_drewN | apply Kd.R_drew)); exact (Kd.R_mono (Kd.R_far (p := ⟨gb214, 2, none⟩) (Kd.R_far (p := ⟨gb214, 1, none⟩) (Kd.R_far (p := ⟨gb214, 0, none⟩) (Kd.R_types HO213.out BK214.out (by decide)) (fun _ hk => hk.2) (.int .i64 t207)) (fun _ hk => hk.2) (.slice Ao37 t208.length co37)) (fun _ hk => hk.2) (.slice Ao38 t211.length co38)) (fun _ h_ => h_.1))) (Kd.R_base ho1) hb); have n6_ := Aside0.mk (Kd.R_lower (Kd.R_new' (Kd.R_new' (Kd.R_new' ho0 (Kd.R_lt (by (with_reducible repeat (first | apply Kd.R_alloc | apply Kd.R_drewN | apply Kd.R_drew)); exact (Kd.R_mono (Kd.R_far (p := ⟨gb214, 2, none⟩) (Kd.R_far (p := ⟨gb214, 1, none⟩) (Kd.R_far (p := ⟨gb214, 0, none⟩) (Kd.R_types HO195.out BK214.out (by decide)) (fun _ hk => hk.2) (.int .i64 t207)) (fun _ hk => hk.2) (.slice Ao37 t208.length co37)) (fun _ hk => hk.2) (.slice Ao38 t211.length co38)) (fun _ h_ => h_.1))))) (Kd.R_lt (by (with_reducible repeat (first | apply Kd.R_alloc | apply Kd.R_drewN | apply Kd.R_drew)); exact (Kd.R_mono (Kd.R_far (p := ⟨gb214, 2, none⟩) (Kd.R_far (p := ⟨gb214, 1, none⟩) (Kd.R_far (p := ⟨gb214, 0, none⟩) (Kd.R_types HO202.out BK214.out (by decide)) (fun _ hk => hk.2) (.int .i64 t207)) (fun _ hk => hk.2) (.slice Ao37 t208.length co37)) (fun _ hk => hk.2) (.slice Ao38 t211.length co38)) (fun _ h_ => h_.1))))) (Kd.R_lt (by (with_reducible repeat (first | apply Kd.R_alloc | apply Kd.R_drewN | apply Kd.R_drew)); exact (Kd.R_mono (Kd.R_far (p := ⟨gb214, 2, none⟩) (Kd.R_far (p := ⟨gb214, 1, none⟩) (Kd.R_far (p := ⟨gb214, 0, none⟩) (Kd.R_types HO210.out BK214.out (by decide)) (fun _ hk => hk.2) (.int .i64 t207)) (fun _ hk => hk.2) (.slice Ao37 t208.length co37)) (fun _ hk => hk.2) (.slice Ao38 t211.length co38)) (fun _ h_ => h_.1))))) (below_size (zB HB))); have n7_ := Aside0.mk (Kd.R_lower (Kd.R_new' (Kd.R_new' (Kd.R_new' ho1 (Kd.R_lt (by (with_reducible repeat (first | apply Kd.R_alloc | apply Kd.R_drewN | apply Kd.R_drew)); exact (Kd.R_mono (Kd.R_far (p := ⟨gb214, 2, none⟩) (Kd.R_far (p := ⟨gb214, 1, none⟩) (Kd.R_far (p := ⟨gb214, 0, none⟩) (Kd.R_types HO198.out BK214.out (by decide)) (fun _ hk => hk.2) (.int .i64 t207)) (fun _ hk => hk.2) (.slice Ao37 t208.length co37)) (fun _ hk => hk.2) (.slice Ao38 t211.length co38)) (fun _ h_ => h_.1))))) (Kd.R_lt (by (with_reducible repeat (first | apply Kd.R_alloc | apply Kd.R_drewN | apply Kd.R_drew)); exact (Kd.R_mono (Kd.R_far (p := ⟨gb214, 2, none⟩) (Kd.R_far (p := ⟨gb214, 1, none⟩) (Kd.R_far (p := ⟨gb214, 0, none⟩) (Kd.R_types HO205.out BK214.out (by decide)) (fun _ hk => hk.2) (.int .i64 t207)) (fun _ hk => hk.2) (.slice Ao37 t208.length co37)) (fun _ hk => hk.2) (.slice Ao38 t211.length co38)) (fun _ h_ => h_.1))))) (Kd.R_lt (by (with_reducible repeat (first | apply Kd.R_alloc | apply Kd.R_drewN | apply Kd.R_drew)); exact (Kd.R_mono (Kd.R_far (p := ⟨gb214, 2, none⟩) (Kd.R_far (p := ⟨gb214, 1, none⟩) (Kd.R_far (p := ⟨gb214, 0, none⟩) (Kd.R_types HO213.out BK214.out (by decide)) (fun _ hk => hk.2) (.int .i64 t207)) (fun _ hk => hk.2) (.slice Ao37 t208.length co37)) (fun _ hk => hk.2) (.slice Ao38 t211.length co38)) (fun _ h_ => h_.1))))) (below_size (zB HB))); have n8_ := Aside0.mk (blk_below (g := gb190) (o := .cells #[.int .i64 a0_0, .slice A0_1 l0_1.length c0_1, .slice A0_2 l0_2.length c0_2] 25 (0, 0)) (by (with_reducible repeat (first | refine blk_drewN ?_ _ | refine blk_drew ?_ | refine blk_alloc ?_ _)); refine blk_far ?_ NB190_214.out _; (with_reducible repeat (first | refine blk_drewN ?_ _ | refine blk_drew ?_ | refine blk_alloc ?_ _)); refine blk_far ?_ NB190_214.out _; (with_reducible repeat (first | refine blk_drewN ?_ _ | refine blk_drew ?_ | refine blk_alloc ?_ _)); refine blk_far ?_ NB190_214.out _; (with_reducible repeat (first | refine blk_drewN ?_ _ | refine blk_drew ?_ | refine blk_alloc ?_ _)); exact BK190.out) hb); have n9_ := Aside0.mk (blk_below (g := gb206) (o := .cells #[.int .i64 t199, .slice Ao29 t200.length co29, .slice Ao30 t203.length co30] 29 (0, 0)) (by (with_reducible repeat (first | refine blk_drewN ?_ _ | refine blk_drew ?_ | refine blk_alloc ?_ _)); refine blk_far ?_ NB206_214.out _; (with_reducible repeat (first | refine blk_drewN ?_ _ | refine blk_drew ?_ | refine blk_alloc ?_ _)); refine blk_far ?_ NB206_214.out _; (with_reducible repeat (first | refine blk_drewN ?_ _ | refine blk_drew ?_ | refine blk_alloc ?_ _)); refine blk_far ?_ NB206_214.out _; (with_reducible repeat (first | refine blk_drewN ?_ _ | refine blk_drew ?_ | refine blk_alloc ?_ _)); exact BK206.out) hb); have n10_ := Aside0.mk (blk_below (g := gb214) (o := .cells #[.int .i64 t207, .slice Ao37 t208.length co37, .slice Ao38 t211.length co38] 29 (0, 0)) (by (with_reducible repeat (first | refine blk_drewN ?_ _ | refine blk_drew ?_ | refine blk_alloc ?_ _)); refine blk_put (cs := #[.int .i64 t207, .slice Ao37 t208.length co37, .slice none 0 0]) ?_ 2 _ rfl; (with_reducible repeat (first | refine blk_drewN ?_ _ | refine blk_drew ?_ | refine blk_alloc ?_ _)); refine blk_put (cs := #[.int .i64 t207, .slice none 0 0, .slice none 0 0]) ?_ 1 _ rfl; (with_reducible repeat (first | refine blk_drewN ?_ _ | refine blk_drew ?_ | refine blk_alloc ?_ _)); refine blk_put (cs := #[.int .i64 0, .slice none 0 0, .slice none 0 0]) ?_ 0 _ rfl; (with_reducible repeat (first | refine blk_drewN ?_ _ | refine blk_drew ?_ | refine blk_alloc ?_ _)); exact BK214.out) hb); have n11_ := bS HB hb; clear HO195; clear HO198; clear HO202; clear HO205; clear HO210; clear HO213; clear BK190; clear BK206; clear BK214; clear HB; have HO195 := n0_; have HO198 := n1_; have HO202 := n2_; have HO205 := n3_; have HO210 := n4_; have HO213 := n5_; have HO218 := n6_; have HO221 := n7_; have BK190 := n8_; have BK206 := n9_; have BK214 := n10_; have HB := n11_; clear n0_ n1_ n2_ n3_ n4_ n5_ n6_ n7_ n8_ n9_ n10_ n11_; (try clear hb); (try clear ho0); (try clear ho1)) | ((with_reducible refine gate_dst (N := 6) rfl ?_); refine box_event ?hg (N := 6) ?hd (cs := #[.int .i64 0, .slice none 0 0, .slice none 0 0]) (t := 29) ?hr ?_; (case hd => rfl); (case hg => rfl); (case hr => first | (go_simp; done) | (go_simp; rfl)); intro gb222 hg w40 hbox hb; have n0_ := Aside0.mk (Kd.R_below (zR HO195) hb); have n1_ := Aside0.mk (Kd.R_below (zR HO198) hb); have n2_ := Aside0.mk (Kd.R_below (zR HO202) hb); have n3_ := Aside0.mk (Kd.R_below (zR HO205) hb); have n4_ := Aside0.mk (Kd.R_below (zR HO210) hb); have n5_ := Aside0.mk (Kd.R_below (zR HO213) hb); have n6_ := Aside0.mk (Kd.R_below (zR HO218) hb); have n7_ := Aside0.mk (Kd.R_below (zR HO221) hb); have n8_ := kB BK190 hb; have n9_ := kB BK206 hb; have n10_ := kB BK214 hb; have n11_ := bS HB hb; have n12_ := Aside0.mk (hbox); have n13_ := gS HB hg; have n14_ := gS HB hg; have n15_ := Aside0.mk ((by rw [hg]; exact Nat.ne_of_lt (blk_lt (g := gb190) (o := .cells #[.int .i64 a0_0, .slice A0_1 l0_1.length c0_1, .slice A0_2 l0_2.length c0_2] 25 (0, 0)) (zK BK190)) : gb190 ≠ gb222)); have n16_ := Aside0.mk ((by rw [hg]; exact Nat.ne_of_gt (blk_lt (g := gb190) (o := .cells #[.int .i64 a0_0, .slice A0_1 l0_1.length c0_1, .slice A0_2 l0_2.length c0_2] 25 (0, 0)) (zK BK190)) : gb222 ≠ gb190)); have n17_ := Aside0.mk ((by rw [hg]; exact Nat.ne_of_lt (blk_lt (g := gb206) (o := .cells #[.int .i64 t199, .slice Ao29 t200.length co29, .slice Ao30 t203.length co30] 29 (0, 0)) (zK BK206)) : gb206 ≠ gb222)); have n18_ := Aside0.mk ((by rw [hg]; exact Nat.ne_of_gt (blk_lt (g := gb206) (o := .cells #[.int .i64 t199, .slice Ao29 t200.length co29, .slice Ao30 t203.length co30] 29 (0, 0)) (zK BK206)) : gb222 ≠ gb206)); have n19_ := Aside0.mk ((by rw [hg]; exact Nat.ne_of_lt (blk_lt (g := gb214) (o := .cells #[.int .i64 t207, .slice Ao37 t208.length co37, .slice Ao38 t211.length co38] 29 (0, 0)) (zK BK214)) : gb214 ≠ gb222)); have n20_ := Aside0.mk ((by rw [hg]; exact Nat.ne_of_gt (blk_lt (g := gb214) (o := .cells #[.int .i64 t207, .slice Ao37 t208.length co37, .slice Ao38 t211.length co38] 29 (0, 0)) (zK BK214)) : gb222 ≠ gb214)); clear HO195; clear HO198; clear HO202; clear HO205; clear HO210; clear HO213; clear HO218; clear HO221; clear BK190; clear BK206; clear BK214; clear HB; have HO195 := n0_; have HO198 := n1_; have HO202 := n2_; have HO205 := n3_; have HO210 := n4_; have HO213 := n5_; have HO218 := n6_; have HO221 := n7_; have BK190 := n8_; have BK206 := n9_; have BK214 := n10_; have HB := n11_; have BK222 := n12_; have GW222 := n13_; have GE222 := n14_; have NB190_222 := n15_; have NB222_190 := n16_; have NB206_222 := n17_; have NB222_206 := n18_; have NB214_222 := n19_; have NB222_214 := n20_; clear n0_ n1_ n2_ n3_ n4_ n5_ n6_ n7_ n8_ n9_ n10_ n11_ n12_ n13_ n14_ n15_ n16_ n17_ n18_ n19_ n20_; clear hb hbox hg; have hnb41 := NB222_190.out; have hnc41 := NB190_222.out; have hnb42 := NB222_206.out; have hnc42 := NB206_222.out; have hnb43 := NB222_214.out; have hnc43 := NB214_222.out; have hcz44_0 := bc0 BK222; have hcz44_1 := bc1 BK222; have hcz44_2 := bc2 BK222; have hfz44_0 := bf BK222 0; have hfz44_1 := bf BK222 1; have hfz44_2 := bf BK222 2; obtain ⟨Ao45, co45, eo45⟩ := Kd.R_slice HO218.out; subst eo45; obtain ⟨Ao46, co46, eo46⟩ := Kd.R_slice HO221.out; subst eo46; have hcz47_0 := bc0 BK206; have hcz47_1 := bc1 BK206; have hcz47_2 := bc2 BK206; have hfz47_0 := bf BK206 0; have hfz47_1 := bf BK206 1; have hfz47_2 := bf BK206 2) | ((with_reducible refine gate_callee (f := 10) rfl ?_); refine goesL_ (some 25) rfl rfl Try.func10 (by kernel_rfl) rfl #[.agg #[.int .i64 t215, .slice Ao45 t216.length co45, .slice Ao46 t219.length co46], .agg #[.int .i64 t199, .slice Ao29 t200.length co29, .slice Ao30 t203.length co30]] rfl zG ?_; (with_reducible refine (laws_eqMachine.calls k t215 _ _ t216 _ _ t219 t199 _ _ t200 _ _ t203 true _ ?side1 ?side2 ?side3 ?side4 ?side5 ?side6 ?side7 ?side8 A11.out).mono ?_); (case side1 => refine (Kd.R_reads' (e := 4) (base := w.heap.size) (ok := fun k_ => (((True ∧ some k_ ≠ (.slice Ao23 t193.length co23 : Value).ownBlock) ∧ some k_ ≠ (.slice Ao29 t200.length co29 : Value).ownBlock) ∧ some k_ ≠ (.slice Ao37 t208.length co37 : Value).ownBlock)) (n := t216.length) (c := co45) ?_).2.2; exact (by (with_reducible repeat (first | apply Kd.R_alloc | apply Kd.R_drewN | apply Kd.R_drew)); exact (Kd.R_mono (Kd.R_far (p := ⟨gb222, 2, none⟩) (Kd.R_far (p := ⟨gb222, 1, none⟩) (Kd.R_far (p := ⟨gb222, 0, none⟩) (Kd.R_types HO218.out BK222.out (by decide)) (fun _ hk => hk.2) (.int .i64 t215)) (fun _ hk => hk.2) (.slice Ao45 t216.length co45)) (fun _ hk => hk.2) (.slice Ao46 t219.length co46)) (fun _ h_ => h_.1)))); (case side2 => exact (Kd.R_reads' HO218.out).2.1); (case side3 => refine (Kd.R_reads' (e := 54) (base := w.heap.size) (ok := fun k_ => (((True ∧ some k_ ≠ (.slice Ao24 t196.length co24 : Value).ownBlock) ∧ some k_ ≠ (.slice Ao30 t203.length co30 : Value).ownBlock) ∧ some k_ ≠ (.slice Ao38 t211.length co38 : Value).ownBlock)) (n := t219.length) (c := co46) ?_).2.2; exact (by (with_reducible repeat (first | apply Kd.R_alloc | apply Kd.R_drewN | apply Kd.R_drew)); exact (Kd.R_mono (Kd.R_far (p := ⟨gb222, 2, none⟩) (Kd.R_far (p := ⟨gb222, 1, none⟩) (Kd.R_far (p := ⟨gb222, 0, none⟩) (Kd.R_types HO221.out BK222.out (by decide)) (fun _ hk => hk.2) (.int .i64 t215)) (fun _ hk => hk.2) (.slice Ao45 t216.length co45)) (fun _ hk => hk.2) (.slice Ao46 t219.length co46)) (fun _ h_ => h_.1)))); (case side4 => exact (Kd.R_reads' HO221.out).2.1); (case side5 => refine (Kd.R_reads' (e := 4) (base := w.heap.size) (ok := fun k_ => (((True ∧ some k_ ≠ (.slice Ao23 t193.length co23 : Value).ownBlock) ∧ some k_ ≠ (.slice Ao37 t208.length co37 : Value).ownBlock) ∧ some k_ ≠ (.slice Ao45 t216.length co45 : Value).ownBlock)) (n := t200.length) (c := co29) ?_).2.2; exact (by (with_reducible repeat (first | apply Kd.R_alloc | apply Kd.R_drewN | apply Kd.R_drew)); exact (Kd.R_mono (Kd.R_far (p := ⟨gb222, 2, none⟩) (Kd.R_far (p := ⟨gb222, 1, none⟩) (Kd.R_far (p := ⟨gb222, 0, none⟩) (Kd.R_types HO202.out BK222.out (by decide)) (fun _ hk => hk.2) (.int .i64 t215)) (fun _ hk => hk.2) (.slice Ao45 t216.length co45)) (fun _ hk => hk.2) (.slice Ao46 t219.length co46)) (fun _ h_ => h_.1)))); (case side6 => exact (Kd.R_reads' HO202.out).2.1); (case side7 => refine (Kd.R_reads' (e := 54) (base := w.heap.size) (ok := fun k_ => (((True ∧ some k_ ≠ (.slice Ao24 t196.length co24 : Value).ownBlock) ∧ some k_ ≠ (.slice Ao38 t211.length co38 : Value).ownBlock) ∧ some k_ ≠ (.slice Ao46 t219.length co46 : Value).ownBlock)) (n := t203.length) (c := co30) ?_).2.2; exact (by (with_reducible repeat (first | apply Kd.R_alloc | apply Kd.R_drewN | apply Kd.R_drew)); exact (Kd.R_mono (Kd.R_far (p := ⟨gb222, 2, none⟩) (Kd.R_far (p := ⟨gb222, 1, none⟩) (Kd.R_far (p := ⟨gb222, 0, none⟩) (Kd.R_types HO205.out BK222.out (by decide)) (fun _ hk => hk.2) (.int .i64 t215)) (fun _ hk => hk.2) (.slice Ao45 t216.length co45)) (fun _ hk => hk.2) (.slice Ao46 t219.length co46)) (fun _ h_ => h_.1)))); (case side8 => exact (Kd.R_reads' HO205.out).2.1); rintro e w48 ⟨rfl, hb⟩; refine ⟨_, rfl, ?_⟩; have n0_ := Aside0.mk (Kd.R_below (by (with_reducible repeat (first | apply Kd.R_alloc | apply Kd.R_drewN | apply Kd.R_drew)); exact (Kd.R_mono (Kd.R_far (p := ⟨gb222, 2, none⟩) (Kd.R_far (p := ⟨gb222, 1, none⟩) (Kd.R_far (p := ⟨gb222, 0, none⟩) (Kd.R_types HO195.out BK222.out (by decide)) (fun _ hk => hk.2) (.int .i64 t215)) (fun _ hk => hk.2) (.slice Ao45 t216.length co45)) (fun _ hk => hk.2) (.slice Ao46 t219.length co46)) (fun _ h_ => h_.1))) hb); have n1_ := Aside0.mk (Kd.R_below (by (with_reducible repeat (first | apply Kd.R_alloc | apply Kd.R_drewN | apply Kd.R_drew)); exact (Kd.R_mono (Kd.R_far (p := ⟨gb222, 2, none⟩) (Kd.R_far (p := ⟨gb222, 1, none⟩) (Kd.R_far (p := ⟨gb222, 0, none⟩) (Kd.R_types HO198.out BK222.out (by decide)) (fun _ hk => hk.2) (.int .i64 t215)) (fun _ hk => hk.2) (.slice Ao45 t216.length co45)) (fun _ hk => hk.2) (.slice Ao46 t219.length co46)) (fun _ h_ => h_.1))) hb); have n2_ := Aside0.mk (Kd.R_below (by (with_reducible repeat (first | apply Kd.R_alloc | apply Kd.R_drewN | apply Kd.R_drew)); exact (Kd.R_mono (Kd.R_far (p := ⟨gb222, 2, none⟩) (Kd.R_far (p := ⟨gb222, 1, none⟩) (Kd.R_far (p := ⟨gb222, 0, none⟩) (Kd.R_types HO202.out BK222.out (by decide)) (fun _ hk => hk.2) (.int .i64 t215)) (fun _ hk => hk.2) (.slice Ao45 t216.length co45)) (fun _ hk => hk.2) (.slice Ao46 t219.length co46)) (fun _ h_ => h_.1))) hb); have n3_ := Aside0.mk (Kd.R_below (by (with_reducible repeat (first | apply Kd.R_alloc | apply Kd.R_drewN | apply Kd.R_drew)); exact (Kd.R_mono (Kd.R_far (p := ⟨gb222, 2, none⟩) (Kd.R_far (p := ⟨gb222, 1, none⟩) (Kd.R_far (p := ⟨gb222, 0, none⟩) (Kd.R_types HO205.out BK222.out (by decide)) (fun _ hk => hk.2) (.int .i64 t215)) (fun _ hk => hk.2) (.slice Ao45 t216.length co45)) (fun _ hk => hk.2) (.slice Ao46 t219.length co46)) (fun _ h_ => h_.1))) hb); have n4_ := Aside0.mk (Kd.R_below (by (with_reducible repeat (first | apply Kd.R_alloc | apply Kd.R_drewN | apply Kd.R_drew)); exact (Kd.R_mono (Kd.R_far (p := ⟨gb222, 2, none⟩) (Kd.R_far (p := ⟨gb222, 1, none⟩) (Kd.R_far (p := ⟨gb222, 0, none⟩) (Kd.R_types HO210.out BK222.out (by decide)) (fun _ hk => hk.2) (.int .i64 t215)) (fun _ hk => hk.2) (.slice Ao45 t216.length co45)) (fun _ hk => hk.2) (.slice Ao46 t219.length co46)) (fun _ h_ => h_.1))) hb); have n5_ := Aside0.mk (Kd.R_below (by (with_reducible repeat (first | apply Kd.R_alloc | apply Kd.R_drewN | apply Kd.R_drew)); exact (Kd.R_mono (Kd.R_far (p := ⟨gb222, 2, none⟩) (Kd.R_far (p := ⟨gb222, 1, none⟩) (Kd.R_far (p := ⟨gb222, 0, none⟩) (Kd.R_types HO213.out BK222.out (by decide)) (fun _ hk => hk.2) (.int .i64 t215)) (fun _ hk => hk.2) (.slice Ao45 t216.length co45)) (fun _ hk => hk.2) (.slice Ao46 t219.length co46)) (fun _ h_ => h_.1))) hb); have n6_ := Aside0.mk (Kd.R_below (by (with_reducible repeat (first | apply Kd.R_alloc | apply Kd.R_drewN | apply Kd.R_drew)); exact (Kd.R_mono (Kd.R_far (p := ⟨gb222, 2, none⟩) (Kd.R_far (p := ⟨gb222, 1, none⟩) (Kd.R_far (p := ⟨gb222, 0, none⟩) (Kd.R_types HO218.out BK222.out (by decide)) (fun _ hk => hk.2) (.int .i64 t215)) (fun _ hk => hk.2) (.slice Ao45 t216.length co45)) (fun _ hk => hk.2) (.slice Ao46 t219.length co46)) (fun _ h_ => h_.1))) hb); have n7_ := Aside0.mk (Kd.R_below (by (with_reducible repeat (first | apply Kd.R_alloc | apply Kd.R_drewN | apply Kd.R_drew)); exact (Kd.R_mono (Kd.R_far (p := ⟨gb222, 2, none⟩) (Kd.R_far (p := ⟨gb222, 1, none⟩) (Kd.R_far (p := ⟨gb222, 0, none⟩) (Kd.R_types HO221.out BK222.out (by decide)) (fun _ hk => hk.2) (.int .i64 t215)) (fun _ hk => hk.2) (.slice Ao45 t216.length co45)) (fun _ hk => hk.2) (.slice Ao46 t219.length co46)) (fun _ h_ => h_.1))) hb); have n8_ := Aside0.mk (blk_below (g := gb190) (o := .cells #[.int .i64 a0_0, .slice A0_1 l0_1.length c0_1, .slice A0_2 l0_2.length c0_2] 25 (0, 0)) (by (with_reducible repeat (first | refine blk_drewN ?_ _ | refine blk_drew ?_ | refine blk_alloc ?_ _)); refine blk_far ?_ NB190_222.out _; (with_reducible repeat (first | refine blk_drewN ?_ _ | refine blk_drew ?_ | refine blk_alloc ?_ _)); refine blk_far ?_ NB190_222.out _; (with_reducible repeat (first | refine blk_drewN ?_ _ | refine blk_drew ?_ | refine blk_alloc ?_ _)); refine blk_far ?_ NB190_222.out _; (with_reducible repeat (first | refine blk_drewN ?_ _ | refine blk_drew ?_ | refine blk_alloc ?_ _)); exact BK190.out) hb); have n9_ := Aside0.mk (blk_below (g := gb206) (o := .cells #[.int .i64 t199, .slice Ao29 t200.length co29, .slice Ao30 t203.length co30] 29 (0, 0)) (by (with_reducible repeat (first | refine blk_drewN ?_ _ | refine blk_drew ?_ | refine blk_alloc ?_ _)); refine blk_far ?_ NB206_222.out _; (with_reducible repeat (first | refine blk_drewN ?_ _ | refine blk_drew ?_ | refine blk_alloc ?_ _)); refine blk_far ?_ NB206_222.out _; (with_reducible repeat (first | refine blk_drewN ?_ _ | refine blk_drew ?_ | refine blk_alloc ?_ _)); refine blk_far ?_ NB206_222.out _; (with_reducible repeat (first | refine blk_drewN ?_ _ | refine blk_drew ?_ | refine blk_alloc ?_ _)); exact BK206.out) hb); have n10_ := Aside0.mk (blk_below (g := gb214) (o := .cells #[.int .i64 t207, .slice Ao37 t208.length co37, .slice Ao38 t211.length co38] 29 (0, 0)) (by (with_reducible repeat (first | refine blk_drewN ?_ _ | refine blk_drew ?_ | refine blk_alloc ?_ _)); refine blk_far ?_ NB214_222.out _; (with_reducible repeat (first | refine blk_drewN ?_ _ | refine blk_drew ?_ | refine blk_alloc ?_ _)); refine blk_far ?_ NB214_222.out _; (with_reducible repeat (first | refine blk_drewN ?_ _ | refine blk_drew ?_ | refine blk_alloc ?_ _)); refine blk_far ?_ NB214_222.out _; (with_reducible repeat (first | refine blk_drewN ?_ _ | refine blk_drew ?_ | refine blk_alloc ?_ _)); exact BK214.out) hb); have n11_ := Aside0.mk (blk_below (g := gb222) (o := .cells #[.int .i64 t215, .slice Ao45 t216.length co45, .slice Ao46 t219.length co46] 29 (0, 0)) (by (with_reducible repeat (first | refine blk_drewN ?_ _ | refine blk_drew ?_ | refine blk_alloc ?_ _)); refine blk_put (cs := #[.int .i64 t215, .slice Ao45 t216.length co45, .slice none 0 0]) ?_ 2 _ rfl; (with_reducible repeat (first | refine blk_drewN ?_ _ | refine blk_drew ?_ | refine blk_alloc ?_ _)); refine blk_put (cs := #[.int .i64 t215, .slice none 0 0, .slice none 0 0]) ?_ 1 _ rfl; (with_reducible repeat (first | refine blk_drewN ?_ _ | refine blk_drew ?_ | refine blk_alloc ?_ _)); refine blk_put (cs := #[.int .i64 0, .slice none 0 0, .slice none 0 0]) ?_ 0 _ rfl; (with_reducible repeat (first | refine blk_drewN ?_ _ | refine blk_drew ?_ | refine blk_alloc ?_ _)); exact BK222.out) hb); have n12_ := bS HB hb; clear HO195; clear HO198; clear HO202; clear HO205; clear HO210; clear HO213; clear HO218; clear HO221; clear BK190; clear BK206; clear BK214; clear BK222; clear HB; have HO195 := n0_; have HO198 := n1_; have HO202 := n2_; have HO205 := n3_; have HO210 := n4_; have HO213 := n5_; have HO218 := n6_; have HO221 := n7_; have BK190 := n8_; have BK206 := n9_; have BK214 := n10_; have BK222 := n11_; have HB := n12_; clear n0_ n1_ n2_ n3_ n4_ n5_ n6_ n7_ n8_ n9_ n10_ n11_ n12_; (try clear hb)))
    have n0_ := Aside0.mk (Kd.R_drew HO195.out)
    have n1_ := Aside0.mk (Kd.R_drew HO198.out)
    have n2_ := Aside0.mk (Kd.R_drew HO202.out)
    have n3_ := Aside0.mk (Kd.R_drew HO205.out)
    have n4_ := Aside0.mk (Kd.R_drew HO210.out)
    have n5_ := Aside0.mk (Kd.R_drew HO213.out)
    have n6_ := Aside0.mk (Kd.R_drew HO218.out)
    have n7_ := Aside0.mk (Kd.R_drew HO221.out)
    have n8_ := Aside0.mk (blk_drew BK190.out)
    have n9_ := Aside0.mk (blk_drew BK206.out)
    have n10_ := Aside0.mk (blk_drew BK214.out)
    have n11_ := Aside0.mk (blk_drew BK222.out)
    have n12_ := Aside0.mk (below_drew1 HB.out)
    clear HO195
    clear HO198
    clear HO202
    clear HO205
    clear HO210
    clear HO213
    clear HO218
    clear HO221
    clear BK190
    clear BK206
    clear BK214
    clear BK222
    clear HB
    have HO195 := n0_
    have HO198 := n1_
    have HO202 := n2_
    have HO205 := n3_
    have HO210 := n4_
    have HO213 := n5_
    have HO218 := n6_
    have HO221 := n7_
    have BK190 := n8_
    have BK206 := n9_
    have BK214 := n10_
    have BK222 := n11_
    have HB := n12_
    clear n0_ n1_ n2_ n3_ n4_ n5_ n6_ n7_ n8_ n9_ n10_ n11_ n12_
    refine start_ (n := 5) (S := fun w' => w'.cell? ⟨gb214, 0, none⟩ = some (.int .i64 t207) ∧ w'.cell? ⟨gb214, 1, none⟩ = some (.slice Ao37 t208.length co37) ∧ w'.cell? ⟨gb214, 2, none⟩ = some (.slice Ao38 t211.length co38) ∧ w'.cell? ⟨gb190, 0, none⟩ = some (.int .i64 a0_0) ∧ w'.cell? ⟨gb190, 1, none⟩ = some (.slice A0_1 l0_1.length c0_1) ∧ w'.cell? ⟨gb190, 2, none⟩ = some (.slice A0_2 l0_2.length c0_2)) (ds := []) #[false, false, false, false, false] (by kernel_rfl) rfl rfl ⟨bc0 BK214, bc1 BK214, bc2 BK214, bc0 BK190, bc1 BK190, bc2 BK190⟩ (fun hHeld => ?_)
    generalize w48.drew = w49 at HO195 HO198 HO202 HO205 HO210 HO213 HO218 HO221 BK190 BK206 BK214 BK222 HB hHeld ⊢
    refine take_ (i := 0) (N := some 27) (v := ?_) (a' := ?_) #[true, false, false, false, false] rfl rfl (by kernel_rfl) (fun _ _ _ h => h) (Or.inl ⟨by rfl, ?_⟩) hHeld ?_ ?_
    rotate_left
    ·rintro w' ⟨s0, s1, s2, s3, s4, s5⟩
     go_simp
     with_reducible rfl
    rotate_left
    ·simp only [Act.put, List.setIfInBounds_toArray, List.set_cons_zero, List.set_cons_succ, i64_w, i32_w]
     rfl
    refine take_ (i := 1) (N := some 28) (v := ?_) (a' := ?_) #[true, true, false, false, false] rfl rfl (by kernel_rfl) (fun _ _ _ h => h) (Or.inl ⟨by rfl, ?_⟩) hHeld ?_ ?_
    rotate_left
    ·rintro w' ⟨s0, s1, s2, s3, s4, s5⟩
     go_simp
     with_reducible rfl
    rotate_left
    ·simp only [Act.put, List.setIfInBounds_toArray, List.set_cons_zero, List.set_cons_succ, i64_w, i32_w]
     rfl
    refine one_ (i := 2) (N := some 29) #[true, true, true, false, false] rfl rfl (by kernel_rfl) (by decide) (fun K hK => ?_)
    refine goes_ Try.func8 (by kernel_rfl) rfl #[.agg #[.int .i64 a0_0, .slice A0_1 l0_1.length c0_1, .slice A0_2 l0_2.length c0_2]] (by rfl) rfl rfl zG ?_
    with_reducible refine (laws_toMachine.calls k a0_0 _ _ l0_1 _ _ l0_2 t224 t225 t228 _ ?side1 ?side2 ?side3 ?side4 A13.out).mono ?_
    (case side1 => exact cS HR0_1 HB)
    (case side2 => exact HC0_1.out)
    (case side3 => exact cS HR0_2 HB)
    (case side4 => exact HC0_2.out)
    rintro e w50 ⟨v226, v229, rfl, ho0, ho1, hb⟩
    refine ⟨_, rfl, ?_⟩
    have n0_ := Aside0.mk (Kd.R_elder' (zR HO195) (Kd.R_base ho0) hb)
    have n1_ := Aside0.mk (Kd.R_elder' (zR HO198) (Kd.R_base ho1) hb)
    have n2_ := Aside0.mk (Kd.R_elder' (zR HO202) (Kd.R_base ho0) hb)
    have n3_ := Aside0.mk (Kd.R_elder' (zR HO205) (Kd.R_base ho1) hb)
    have n4_ := Aside0.mk (Kd.R_elder' (zR HO210) (Kd.R_base ho0) hb)
    have n5_ := Aside0.mk (Kd.R_elder' (zR HO213) (Kd.R_base ho1) hb)
    have n6_ := Aside0.mk (Kd.R_elder' (zR HO218) (Kd.R_base ho0) hb)
    have n7_ := Aside0.mk (Kd.R_elder' (zR HO221) (Kd.R_base ho1) hb)
    have n8_ := Aside0.mk (Kd.R_lower (Kd.R_new' (Kd.R_new' (Kd.R_new' (Kd.R_new' ho0 (Kd.R_lt (zR HO195))) (Kd.R_lt (zR HO202))) (Kd.R_lt (zR HO210))) (Kd.R_lt (zR HO218))) (below_size (zB HB)))
    have n9_ := Aside0.mk (Kd.R_lower (Kd.R_new' (Kd.R_new' (Kd.R_new' (Kd.R_new' ho1 (Kd.R_lt (zR HO198))) (Kd.R_lt (zR HO205))) (Kd.R_lt (zR HO213))) (Kd.R_lt (zR HO221))) (below_size (zB HB)))
    have n10_ := kB BK190 hb
    have n11_ := kB BK206 hb
    have n12_ := kB BK214 hb
    have n13_ := kB BK222 hb
    have n14_ := bS HB hb
    clear HO195
    clear HO198
    clear HO202
    clear HO205
    clear HO210
    clear HO213
    clear HO218
    clear HO221
    clear BK190
    clear BK206
    clear BK214
    clear BK222
    clear HB
    have HO195 := n0_
    have HO198 := n1_
    have HO202 := n2_
    have HO205 := n3_
    have HO210 := n4_
    have HO213 := n5_
    have HO218 := n6_
    have HO221 := n7_
    have HO227 := n8_
    have HO230 := n9_
    have BK190 := n10_
    have BK206 := n11_
    have BK214 := n12_
    have BK222 := n13_
    have HB := n14_
    clear n0_ n1_ n2_ n3_ n4_ n5_ n6_ n7_ n8_ n9_ n10_ n11_ n12_ n13_ n14_
    (try clear hb)
    (try clear hb2)
    (try clear hk)
    (try clear hi)
    (try clear ho0)
    (try clear ho1)
    obtain ⟨Ao51, co51, eo51⟩ := Kd.R_slice HO227.out
    (first | subst eo51 | (injection eo51 with f1_ f2_ f3_; have f4_ := f1_.symm; have f5_ := f3_.symm; clear f1_ f2_ f3_; subst f4_; subst f5_))
    obtain ⟨Ao52, co52, eo52⟩ := Kd.R_slice HO230.out
    (first | subst eo52 | (injection eo52 with f1_ f2_ f3_; have f4_ := f1_.symm; have f5_ := f3_.symm; clear f1_ f2_ f3_; subst f4_; subst f5_))
    refine hK.out _ _ ⟨bc0 BK214, bc1 BK214, bc2 BK214, bc0 BK190, bc1 BK190, bc2 BK190⟩ (fun hHeld => ?_)
    clear hK K
    refine norm_ (a' := ?_) ?_ ?_
    rotate_left
    ·show Act.put _ (some 29) _ = _
     simp only [Act.put, List.setIfInBounds_toArray, List.set_cons_zero, List.set_cons_succ, i64_w, i32_w]
     rfl
    refine one_ (i := 3) (N := some 30) #[true, true, true, true, false] rfl rfl (by kernel_rfl) (by decide) (fun K hK => ?_)
    refine goes_ Try.func10 (by kernel_rfl) rfl #[.agg #[.int .i64 t207, .slice Ao37 t208.length co37, .slice Ao38 t211.length co38], .agg #[.int .i64 t224, .slice Ao51 t225.length co51, .slice Ao52 t228.length co52]] (by rfl) rfl rfl zG ?_
    with_reducible refine (laws_eqMachine.calls k t207 _ _ t208 _ _ t211 t224 _ _ t225 _ _ t228 true _ ?side1 ?side2 ?side3 ?side4 ?side5 ?side6 ?side7 ?side8 A14.out).mono ?_
    (case side1 => repeat (first | exact (Kd.R_reads' HO210.out).2.2 | (with_reducible refine Kd.C_alloc ?_ _) | (with_reducible refine Kd.C_drewN ?_ _) | (with_reducible refine Kd.C_drew ?_)))
    (case side2 => exact (Kd.R_reads' HO210.out).2.1)
    (case side3 => repeat (first | exact (Kd.R_reads' HO213.out).2.2 | (with_reducible refine Kd.C_alloc ?_ _) | (with_reducible refine Kd.C_drewN ?_ _) | (with_reducible refine Kd.C_drew ?_)))
    (case side4 => exact (Kd.R_reads' HO213.out).2.1)
    (case side5 => repeat (first | exact (Kd.R_reads' HO227.out).2.2 | (with_reducible refine Kd.C_alloc ?_ _) | (with_reducible refine Kd.C_drewN ?_ _) | (with_reducible refine Kd.C_drew ?_)))
    (case side6 => exact (Kd.R_reads' HO227.out).2.1)
    (case side7 => repeat (first | exact (Kd.R_reads' HO230.out).2.2 | (with_reducible refine Kd.C_alloc ?_ _) | (with_reducible refine Kd.C_drewN ?_ _) | (with_reducible refine Kd.C_drew ?_)))
    (case side8 => exact (Kd.R_reads' HO230.out).2.1)
    rintro e w53 ⟨rfl, hb⟩
    refine ⟨_, rfl, ?_⟩
    have n0_ := Aside0.mk (Kd.R_below (zR HO195) hb)
    have n1_ := Aside0.mk (Kd.R_below (zR HO198) hb)
    have n2_ := Aside0.mk (Kd.R_below (zR HO202) hb)
    have n3_ := Aside0.mk (Kd.R_below (zR HO205) hb)
    have n4_ := Aside0.mk (Kd.R_below (zR HO210) hb)
    have n5_ := Aside0.mk (Kd.R_below (zR HO213) hb)
    have n6_ := Aside0.mk (Kd.R_below (zR HO218) hb)
    have n7_ := Aside0.mk (Kd.R_below (zR HO221) hb)
    have n8_ := Aside0.mk (Kd.R_below (zR HO227) hb)
    have n9_ := Aside0.mk (Kd.R_below (zR HO230) hb)
    have n10_ := kB BK190 hb
    have n11_ := kB BK206 hb
    have n12_ := kB BK214 hb
    have n13_ := kB BK222 hb
    have n14_ := bS HB hb
    clear HO195
    clear HO198
    clear HO202
    clear HO205
    clear HO210
    clear HO213
    clear HO218
    clear HO221
    clear HO227
    clear HO230
    clear BK190
    clear BK206
    clear BK214
    clear BK222
    clear HB
    have HO195 := n0_
    have HO198 := n1_
    have HO202 := n2_
    have HO205 := n3_
    have HO210 := n4_
    have HO213 := n5_
    have HO218 := n6_
    have HO221 := n7_
    have HO227 := n8_
    have HO230 := n9_
    have BK190 := n10_
    have BK206 := n11_
    have BK214 := n12_
    have BK222 := n13_
    have HB := n14_
    clear n0_ n1_ n2_ n3_ n4_ n5_ n6_ n7_ n8_ n9_ n10_ n11_ n12_ n13_ n14_
    (try clear hb)
    (try clear hb2)
    (try clear hk)
    (try clear hi)
    refine hK.out _ _ ⟨bc0 BK214, bc1 BK214, bc2 BK214, bc0 BK190, bc1 BK190, bc2 BK190⟩ (fun hHeld => ?_)
    clear hK K
    refine norm_ (a' := ?_) ?_ ?_
    rotate_left
    ·show Act.put _ (some 30) _ = _
     simp only [Act.put, List.setIfInBounds_toArray, List.set_cons_zero, List.set_cons_succ, i64_w, i32_w]
     rfl
    refine pure_ (i := 4) (N := some 31) (v := ?_) (a' := ?_) #[true, true, true, true, true] rfl rfl (by kernel_rfl) (fun _ _ _ h => h) (Or.inl ⟨by rfl, ?_⟩) ?_ ?_
    rotate_left
    ·intro w'
     go_simp
     with_reducible rfl
    rotate_left
    ·simp only [Act.put, List.setIfInBounds_toArray, List.set_cons_zero, List.set_cons_succ, i64_w, i32_w]
     rfl
    refine done_ (by kernel_rfl) ?_
    try clear hHeld
    have hcz54_0 := bc0 BK214
    have hcz54_1 := bc1 BK214
    have hcz54_2 := bc2 BK214
    have hfz54_0 := bf BK214 0
    have hfz54_1 := bf BK214 1
    have hfz54_2 := bf BK214 2
    go_upto_region 14 with (first | ((with_reducible refine gate_callee (f := 11) rfl ?_); refine goesL_ (some 34) rfl rfl Try.func11 (by kernel_rfl) rfl #[.agg #[.int .i64 t207, .slice Ao37 t208.length co37, .slice Ao38 t211.length co38], .int .i64 1] rfl zG ?_; (with_reducible refine (laws_markMachine.calls k t207 (fun k_ => some k_ = (.slice Ao37 t208.length co37 : Value).ownBlock) (.slice Ao37 t208.length co37) t208 (fun k_ => some k_ = (.slice Ao38 t211.length co38 : Value).ownBlock) (.slice Ao38 t211.length co38) t211 1 t232 t233 t234 w _ ?side1 ?side2 ?side3 A16.out).mono ?_); (case side1 => repeat (first | (with_reducible first | exact HB.out | apply below_alloc | apply pw_below_drewN | apply below_drew1 | refine below_set ?_ GE190.out | refine below_set ?_ GE206.out | refine below_set ?_ GE214.out | refine below_set ?_ GE222.out) | exact HB.out)); (case side2 => exact Kd.R_tight rfl HO210.out); (case side3 => exact Kd.R_tight rfl HO213.out); rintro e w55 ⟨rfl, hy0, hy1, hb, hkp⟩; refine ⟨_, rfl, ?_⟩; have n0_ := Aside0.mk (blk_kept (zK BK190) hkp (fun hs_ => Or.elim hs_ (fun e_ => (fun e_ => (Kd.R_ne HO210.out BK190.out (by decide)) e_) e_) (fun e_ => (fun e_ => (Kd.R_ne HO213.out BK190.out (by decide)) e_) e_))); have n1_ := Aside0.mk (Kd.R_mono (ok' := fun k_ => some k_ ≠ (.slice Ao29 t200.length co29 : Value).ownBlock ∧ some k_ ≠ (.slice Ao37 t208.length co37 : Value).ownBlock ∧ some k_ ≠ (.slice Ao45 t216.length co45 : Value).ownBlock ∧ some k_ ≠ (.slice Ao51 t225.length co51 : Value).ownBlock) (Kd.R_keptB ((Kd.R_apart' HO195.out (Kd.R_typed HO213.out) (by decide))) hkp (fun k_ hk_ hs_ => Or.elim hs_ (fun e_ => ne_pick hk_ e_) (fun e_ => ne_pick hk_ e_))) (fun k_ hk_ => ⟨(pick hk_), (pick hk_), (pick hk_), (pick hk_)⟩)); have n2_ := Aside0.mk (Kd.R_mono (ok' := fun k_ => some k_ ≠ (.slice Ao30 t203.length co30 : Value).ownBlock ∧ some k_ ≠ (.slice Ao38 t211.length co38 : Value).ownBlock ∧ some k_ ≠ (.slice Ao46 t219.length co46 : Value).ownBlock ∧ some k_ ≠ (.slice Ao52 t228.length co52 : Value).ownBlock) (Kd.R_keptB ((Kd.R_apart' HO198.out (Kd.R_typed HO210.out) (by decide))) hkp (fun k_ hk_ hs_ => Or.elim hs_ (fun e_ => ne_pick hk_ e_) (fun e_ => ne_pick hk_ e_))) (fun k_ hk_ => ⟨(pick hk_), (pick hk_), (pick hk_), (pick hk_)⟩)); have n3_ := Aside0.mk (Kd.R_mono (ok' := fun k_ => some k_ ≠ (.slice Ao23 t193.length co23 : Value).ownBlock ∧ some k_ ≠ (.slice Ao37 t208.length co37 : Value).ownBlock ∧ some k_ ≠ (.slice Ao45 t216.length co45 : Value).ownBlock ∧ some k_ ≠ (.slice Ao51 t225.length co51 : Value).ownBlock) (Kd.R_keptB ((Kd.R_apart' HO202.out (Kd.R_typed HO213.out) (by decide))) hkp (fun k_ hk_ hs_ => Or.elim hs_ (fun e_ => ne_pick hk_ e_) (fun e_ => ne_pick hk_ e_))) (fun k_ hk_ => ⟨(pick hk_), (pick hk_), (pick hk_), (pick hk_)⟩)); have n4_ := Aside0.mk (Kd.R_mono (ok' := fun k_ => some k_ ≠ (.slice Ao24 t196.length co24 : Value).ownBlock ∧ some k_ ≠ (.slice Ao38 t211.length co38 : Value).ownBlock ∧ some k_ ≠ (.slice Ao46 t219.length co46 : Value).ownBlock ∧ some k_ ≠ (.slice Ao52 t228.length co52 : Value).ownBlock) (Kd.R_keptB ((Kd.R_apart' HO205.out (Kd.R_typed HO210.out) (by decide))) hkp (fun k_ hk_ hs_ => Or.elim hs_ (fun e_ => ne_pick hk_ e_) (fun e_ => ne_pick hk_ e_))) (fun k_ hk_ => ⟨(pick hk_), (pick hk_), (pick hk_), (pick hk_)⟩)); have n5_ := Aside0.mk (blk_kept (zK BK206) hkp (fun hs_ => Or.elim hs_ (fun e_ => (fun e_ => (Kd.R_ne HO210.out BK206.out (by decide)) e_) e_) (fun e_ => (fun e_ => (Kd.R_ne HO213.out BK206.out (by decide)) e_) e_))); have n6_ := Aside0.mk (Kd.R_reok rfl hy0 (fun k_ e_ => HO210.out.1 k_ e_)); have n7_ := Aside0.mk (Kd.R_reok rfl hy1 (fun k_ e_ => HO213.out.1 k_ e_)); have n8_ := Aside0.mk (blk_kept (zK BK214) hkp (fun hs_ => Or.elim hs_ (fun e_ => (fun e_ => (Kd.R_ne HO210.out BK214.out (by decide)) e_) e_) (fun e_ => (fun e_ => (Kd.R_ne HO213.out BK214.out (by decide)) e_) e_))); have n9_ := Aside0.mk (Kd.R_mono (ok' := fun k_ => some k_ ≠ (.slice Ao23 t193.length co23 : Value).ownBlock ∧ some k_ ≠ (.slice Ao29 t200.length co29 : Value).ownBlock ∧ some k_ ≠ (.slice Ao37 t208.length co37 : Value).ownBlock ∧ some k_ ≠ (.slice Ao51 t225.length co51 : Value).ownBlock) (Kd.R_keptB ((Kd.R_apart' HO218.out (Kd.R_typed HO213.out) (by decide))) hkp (fun k_ hk_ hs_ => Or.elim hs_ (fun e_ => ne_pick hk_ e_) (fun e_ => ne_pick hk_ e_))) (fun k_ hk_ => ⟨(pick hk_), (pick hk_), (pick hk_), (pick hk_)⟩)); have n10_ := Aside0.mk (Kd.R_mono (ok' := fun k_ => some k_ ≠ (.slice Ao24 t196.length co24 : Value).ownBlock ∧ some k_ ≠ (.slice Ao30 t203.length co30 : Value).ownBlock ∧ some k_ ≠ (.slice Ao38 t211.length co38 : Value).ownBlock ∧ some k_ ≠ (.slice Ao52 t228.length co52 : Value).ownBlock) (Kd.R_keptB ((Kd.R_apart' HO221.out (Kd.R_typed HO210.out) (by decide))) hkp (fun k_ hk_ hs_ => Or.elim hs_ (fun e_ => ne_pick hk_ e_) (fun e_ => ne_pick hk_ e_))) (fun k_ hk_ => ⟨(pick hk_), (pick hk_), (pick hk_), (pick hk_)⟩)); have n11_ := Aside0.mk (blk_kept (zK BK222) hkp (fun hs_ => Or.elim hs_ (fun e_ => (fun e_ => (Kd.R_ne HO210.out BK222.out (by decide)) e_) e_) (fun e_ => (fun e_ => (Kd.R_ne HO213.out BK222.out (by decide)) e_) e_))); have n12_ := Aside0.mk (Kd.R_mono (ok' := fun k_ => some k_ ≠ (.slice Ao23 t193.length co23 : Value).ownBlock ∧ some k_ ≠ (.slice Ao29 t200.length co29 : Value).ownBlock ∧ some k_ ≠ (.slice Ao37 t208.length co37 : Value).ownBlock ∧ some k_ ≠ (.slice Ao45 t216.length co45 : Value).ownBlock) (Kd.R_keptB ((Kd.R_apart' HO227.out (Kd.R_typed HO213.out) (by decide))) hkp (fun k_ hk_ hs_ => Or.elim hs_ (fun e_ => ne_pick hk_ e_) (fun e_ => ne_pick hk_ e_))) (fun k_ hk_ => ⟨(pick hk_), (pick hk_), (pick hk_), (pick hk_)⟩)); have n13_ := Aside0.mk (Kd.R_mono (ok' := fun k_ => some k_ ≠ (.slice Ao24 t196.length co24 : Value).ownBlock ∧ some k_ ≠ (.slice Ao30 t203.length co30 : Value).ownBlock ∧ some k_ ≠ (.slice Ao38 t211.length co38 : Value).ownBlock ∧ some k_ ≠ (.slice Ao46 t219.length co46 : Value).ownBlock) (Kd.R_keptB ((Kd.R_apart' HO230.out (Kd.R_typed HO210.out) (by decide))) hkp (fun k_ hk_ hs_ => Or.elim hs_ (fun e_ => ne_pick hk_ e_) (fun e_ => ne_pick hk_ e_))) (fun k_ hk_ => ⟨(pick hk_), (pick hk_), (pick hk_), (pick hk_)⟩)); have n14_ := Aside0.mk (hb); clear BK190; clear HO195; clear HO198; clear HO202; clear HO205; clear BK206; clear HO210; clear HO213; clear BK214; clear HO218; clear HO221; clear BK222; clear HO227; clear HO230; clear HB; have BK190 := n0_; have HO195 := n1_; have HO198 := n2_; have HO202 := n3_; have HO205 := n4_; have BK206 := n5_; have HO210 := n6_; have HO213 := n7_; have BK214 := n8_; have HO218 := n9_; have HO221 := n10_; have BK222 := n11_; have HO227 := n12_; have HO230 := n13_; have HB := n14_; clear n0_ n1_ n2_ n3_ n4_ n5_ n6_ n7_ n8_ n9_ n10_ n11_ n12_ n13_ n14_; (try clear hb); (try clear hkp); (try clear hy0); (try clear hy1)))
    (try simp only [Act.put, List.setIfInBounds_toArray, List.set_cons_zero, List.set_cons_succ])
    go_cut [42] (fun v42 wc => ∃ (kq : Nat) (x42_16 : Bool), v42 = .bool x42_16 ∧ Aside0 (laws_FnExactDualOf.j0 kq x42_16 a0_0 l0_1 l0_2 t199 t200 t203 t215 t216 t219 = some r) ∧ Aside0 (kq ≤ k) ∧ Aside0 (Kd.R Kd.bool 4 wc w.heap.size (fun k_ => some k_ ≠ ((.slice Ao37 t208.length co37) : Value).ownBlock ∧ some k_ ≠ ((.slice Ao45 t216.length co45) : Value).ownBlock) (.slice Ao29 t200.length co29) t200) ∧ Aside0 (Kd.R k54 54 wc w.heap.size (fun k_ => some k_ ≠ ((.slice Ao38 t211.length co38) : Value).ownBlock ∧ some k_ ≠ ((.slice Ao46 t219.length co46) : Value).ownBlock) (.slice Ao30 t203.length co30) t203) ∧ Aside0 (Kd.R Kd.bool 4 wc w.heap.size (fun k_ => some k_ ≠ ((.slice Ao29 t200.length co29) : Value).ownBlock ∧ some k_ ≠ ((.slice Ao45 t216.length co45) : Value).ownBlock) (.slice Ao37 t208.length co37) t233) ∧ Aside0 (Kd.R k54 54 wc w.heap.size (fun k_ => some k_ ≠ ((.slice Ao30 t203.length co30) : Value).ownBlock ∧ some k_ ≠ ((.slice Ao46 t219.length co46) : Value).ownBlock) (.slice Ao38 t211.length co38) t234) ∧ Aside0 (Kd.R Kd.bool 4 wc w.heap.size (fun k_ => some k_ ≠ ((.slice Ao29 t200.length co29) : Value).ownBlock ∧ some k_ ≠ ((.slice Ao37 t208.length co37) : Value).ownBlock) (.slice Ao45 t216.length co45) t216) ∧ Aside0 (Kd.R k54 54 wc w.heap.size (fun k_ => some k_ ≠ ((.slice Ao30 t203.length co30) : Value).ownBlock ∧ some k_ ≠ ((.slice Ao38 t211.length co38) : Value).ownBlock) (.slice Ao46 t219.length co46) t219) ∧ Aside0 (wc.heap[gb190]? = some (.cells #[.int .i64 a0_0, (.slice A0_1 l0_1.length c0_1), (.slice A0_2 l0_2.length c0_2)] 25 (0, 0))) ∧ Aside0 (wc.heap[gb206]? = some (.cells #[.int .i64 t199, (.slice Ao29 t200.length co29), (.slice Ao30 t203.length co30)] 29 (0, 0))) ∧ Aside0 (wc.heap[gb214]? = some (.cells #[.int .i64 t207, (.slice Ao37 t208.length co37), (.slice Ao38 t211.length co38)] 29 (0, 0))) ∧ Aside0 (wc.heap[gb222]? = some (.cells #[.int .i64 t215, (.slice Ao45 t216.length co45), (.slice Ao46 t219.length co46)] 29 (0, 0))) ∧ Aside0 (Below w.heap.size w wc))
    case first =>
     have H := HC17.out
     clear HC17
     by_cases c56 : t232 < 0
     ·rw [if_pos c56] at H
      have c56b0 : decide (t232 < 0) = true := decide_eq_true c56
      clear c56
      (first | rw [c56b0] | (simp only [i64_w, i32_w]; rw [c56b0]) | skip)
      have H' := Aside0.mk H
      clear H
      go_wp2
      go_meet
      case rel => exact ⟨_, (true), zF, H', ⟨by first | omega | exact Nat.le_refl _⟩, ⟨by (with_reducible repeat (first | apply Kd.R_alloc | apply Kd.R_drewN | apply Kd.R_drew)); exact Kd.R_mono HO202.out (fun _ hk => ⟨hk.2.1, hk.2.2.1⟩)⟩, ⟨by (with_reducible repeat (first | apply Kd.R_alloc | apply Kd.R_drewN | apply Kd.R_drew)); exact Kd.R_mono HO205.out (fun _ hk => ⟨hk.2.1, hk.2.2.1⟩)⟩, ⟨by (with_reducible repeat (first | apply Kd.R_alloc | apply Kd.R_drewN | apply Kd.R_drew)); exact Kd.R_mono HO210.out (fun _ hk => ⟨hk.1.1.2, hk.1.2⟩)⟩, ⟨by (with_reducible repeat (first | apply Kd.R_alloc | apply Kd.R_drewN | apply Kd.R_drew)); exact Kd.R_mono HO213.out (fun _ hk => ⟨hk.1.1.2, hk.1.2⟩)⟩, ⟨by (with_reducible repeat (first | apply Kd.R_alloc | apply Kd.R_drewN | apply Kd.R_drew)); exact Kd.R_mono HO218.out (fun _ hk => ⟨hk.2.1, hk.2.2.1⟩)⟩, ⟨by (with_reducible repeat (first | apply Kd.R_alloc | apply Kd.R_drewN | apply Kd.R_drew)); exact Kd.R_mono HO221.out (fun _ hk => ⟨hk.2.1, hk.2.2.1⟩)⟩, ⟨zK BK190⟩, ⟨zK BK206⟩, ⟨zK BK214⟩, ⟨zK BK222⟩, ⟨zB HB⟩⟩
     ·rw [if_neg c56] at H
      have c56b0 : decide (t232 < 0) = false := decide_eq_false c56
      clear c56
      (first | rw [c56b0] | (simp only [i64_w, i32_w]; rw [c56b0]) | skip)
      replace H := Option.bind_eq_some_iff.mp H
      obtain ⟨t235, A570, H⟩ := H
      replace H : (laws_FnExactDualOf.j0 k (!t235) a0_0 l0_1 l0_2 t199 t200 t203 t215 t216 t219) = some r := H
      have A57 := Aside0.mk A570
      clear A570
      have H' := Aside0.mk H
      clear H
      have hnb58 := NB222_190.out
      have hnc58 := NB190_222.out
      have hnb59 := NB222_206.out
      have hnc59 := NB206_222.out
      have hnb60 := NB222_214.out
      have hnc60 := NB214_222.out
      have hcz61_0 := bc0 BK222
      have hcz61_1 := bc1 BK222
      have hcz61_2 := bc2 BK222
      have hfz61_0 := bf BK222 0
      have hfz61_1 := bf BK222 1
      have hfz61_2 := bf BK222 2
      have hnb62 := NB206_190.out
      have hnc62 := NB190_206.out
      have hnb63 := NB206_214.out
      have hnc63 := NB214_206.out
      have hcz64_0 := bc0 BK206
      have hcz64_1 := bc1 BK206
      have hcz64_2 := bc2 BK206
      have hfz64_0 := bf BK206 0
      have hfz64_1 := bf BK206 1
      have hfz64_2 := bf BK206 2
      go_wp2_with (first | (go_at_call 10; (with_reducible refine (laws_eqMachine.calls k t215 _ _ t216 _ _ t219 t199 _ _ t200 _ _ t203 t235 _ ?side1 ?side2 ?side3 ?side4 ?side5 ?side6 ?side7 ?side8 A57.out).mono ?_); (case side1 => repeat (first | exact (Kd.R_reads' HO218.out).2.2 | (with_reducible refine Kd.C_alloc ?_ _) | (with_reducible refine Kd.C_drewN ?_ _) | (with_reducible refine Kd.C_drew ?_))); (case side2 => exact (Kd.R_reads' HO218.out).2.1); (case side3 => repeat (first | exact (Kd.R_reads' HO221.out).2.2 | (with_reducible refine Kd.C_alloc ?_ _) | (with_reducible refine Kd.C_drewN ?_ _) | (with_reducible refine Kd.C_drew ?_))); (case side4 => exact (Kd.R_reads' HO221.out).2.1); (case side5 => repeat (first | exact (Kd.R_reads' HO202.out).2.2 | (with_reducible refine Kd.C_alloc ?_ _) | (with_reducible refine Kd.C_drewN ?_ _) | (with_reducible refine Kd.C_drew ?_))); (case side6 => exact (Kd.R_reads' HO202.out).2.1); (case side7 => repeat (first | exact (Kd.R_reads' HO205.out).2.2 | (with_reducible refine Kd.C_alloc ?_ _) | (with_reducible refine Kd.C_drewN ?_ _) | (with_reducible refine Kd.C_drew ?_))); (case side8 => exact (Kd.R_reads' HO205.out).2.1); rintro e w65 ⟨rfl, hb⟩; have n0_ := Aside0.mk (Kd.R_below (zR HO195) hb); have n1_ := Aside0.mk (Kd.R_below (zR HO198) hb); have n2_ := Aside0.mk (Kd.R_below (zR HO202) hb); have n3_ := Aside0.mk (Kd.R_below (zR HO205) hb); have n4_ := Aside0.mk (Kd.R_below (zR HO210) hb); have n5_ := Aside0.mk (Kd.R_below (zR HO213) hb); have n6_ := Aside0.mk (Kd.R_below (zR HO218) hb); have n7_ := Aside0.mk (Kd.R_below (zR HO221) hb); have n8_ := Aside0.mk (Kd.R_below (zR HO227) hb); have n9_ := Aside0.mk (Kd.R_below (zR HO230) hb); have n10_ := kB BK190 hb; have n11_ := kB BK206 hb; have n12_ := kB BK214 hb; have n13_ := kB BK222 hb; have n14_ := bS HB hb; clear HO195; clear HO198; clear HO202; clear HO205; clear HO210; clear HO213; clear HO218; clear HO221; clear HO227; clear HO230; clear BK190; clear BK206; clear BK214; clear BK222; clear HB; have HO195 := n0_; have HO198 := n1_; have HO202 := n2_; have HO205 := n3_; have HO210 := n4_; have HO213 := n5_; have HO218 := n6_; have HO221 := n7_; have HO227 := n8_; have HO230 := n9_; have BK190 := n10_; have BK206 := n11_; have BK214 := n12_; have BK222 := n13_; have HB := n14_; clear n0_ n1_ n2_ n3_ n4_ n5_ n6_ n7_ n8_ n9_ n10_ n11_ n12_ n13_ n14_; (try clear hb)))
      go_meet
      case rel => exact ⟨_, (!t235), zF, H', ⟨by first | omega | exact Nat.le_refl _⟩, ⟨by (with_reducible repeat (first | apply Kd.R_alloc | apply Kd.R_drewN | apply Kd.R_drew)); exact Kd.R_mono HO202.out (fun _ hk => ⟨hk.2.1, hk.2.2.1⟩)⟩, ⟨by (with_reducible repeat (first | apply Kd.R_alloc | apply Kd.R_drewN | apply Kd.R_drew)); exact Kd.R_mono HO205.out (fun _ hk => ⟨hk.2.1, hk.2.2.1⟩)⟩, ⟨by (with_reducible repeat (first | apply Kd.R_alloc | apply Kd.R_drewN | apply Kd.R_drew)); exact Kd.R_mono HO210.out (fun _ hk => ⟨hk.1.1.2, hk.1.2⟩)⟩, ⟨by (with_reducible repeat (first | apply Kd.R_alloc | apply Kd.R_drewN | apply Kd.R_drew)); exact Kd.R_mono HO213.out (fun _ hk => ⟨hk.1.1.2, hk.1.2⟩)⟩, ⟨by (with_reducible repeat (first | apply Kd.R_alloc | apply Kd.R_drewN | apply Kd.R_drew)); exact Kd.R_mono HO218.out (fun _ hk => ⟨hk.2.1, hk.2.2.1⟩)⟩, ⟨by (with_reducible repeat (first | apply Kd.R_alloc | apply Kd.R_drewN | apply Kd.R_drew)); exact Kd.R_mono HO221.out (fun _ hk => ⟨hk.2.1, hk.2.2.1⟩)⟩, ⟨zK BK190⟩, ⟨zK BK206⟩, ⟨zK BK214⟩, ⟨zK BK222⟩, ⟨zB HB⟩⟩
    case rest =>
     clear HC17
     try clear c1
     try clear c2
     try clear p2
     try clear c3
     try clear c3b0
     try clear c4
     try clear c5
     try clear c6
     try clear c7
     try clear c8
     try clear c9
     try clear c10
     try clear c11
     try clear c12
     try clear c15
     try clear c27
     try clear c34
     try clear c35
     try clear c41
     try clear c42
     try clear c43
     try clear c56
     try clear c56b0
     try clear c58
     try clear c59
     try clear c60
     try clear c62
     try clear c63
     try clear hcz19_0
     try clear hcz19_1
     try clear hcz19_2
     try clear hcz21_0
     try clear hcz21_1
     try clear hcz21_2
     try clear hcz28_0
     try clear hcz28_1
     try clear hcz28_2
     try clear hcz31_0
     try clear hcz31_1
     try clear hcz31_2
     try clear hcz36_0
     try clear hcz36_1
     try clear hcz36_2
     try clear hcz44_0
     try clear hcz44_1
     try clear hcz44_2
     try clear hcz47_0
     try clear hcz47_1
     try clear hcz47_2
     try clear hcz54_0
     try clear hcz54_1
     try clear hcz54_2
     try clear hcz5_0
     try clear hcz5_1
     try clear hcz5_2
     try clear hcz61_0
     try clear hcz61_1
     try clear hcz61_2
     try clear hcz64_0
     try clear hcz64_1
     try clear hcz64_2
     try clear hfz19_0
     try clear hfz19_1
     try clear hfz19_2
     try clear hfz21_0
     try clear hfz21_1
     try clear hfz21_2
     try clear hfz28_0
     try clear hfz28_1
     try clear hfz28_2
     try clear hfz31_0
     try clear hfz31_1
     try clear hfz31_2
     try clear hfz36_0
     try clear hfz36_1
     try clear hfz36_2
     try clear hfz44_0
     try clear hfz44_1
     try clear hfz44_2
     try clear hfz47_0
     try clear hfz47_1
     try clear hfz47_2
     try clear hfz54_0
     try clear hfz54_1
     try clear hfz54_2
     try clear hfz5_0
     try clear hfz5_1
     try clear hfz5_2
     try clear hfz61_0
     try clear hfz61_1
     try clear hfz61_2
     try clear hfz64_0
     try clear hfz64_1
     try clear hfz64_2
     obtain ⟨kq, x42_16, rfl, HA, HJ16, HO_207001, HO_207002, HO_215001, HO_215002, HO_223001, HO_223002, BK190, BK206, BK214, BK222, HB⟩ := hcut
     have hl215001_16 := (Kd.R_reads' HO_215001.out).1
     rw [hl215001_16] at HO_215001
     (try simp only [hl215001_16])
     (try simp only [hl215001_16] at BK190)
     (try simp only [hl215001_16] at BK206)
     (try simp only [hl215001_16] at BK214)
     (try simp only [hl215001_16] at BK222)
     (try simp only [hl215001_16] at HO_207001)
     (try simp only [hl215001_16] at HO_207002)
     (try simp only [hl215001_16] at HO_215002)
     (try simp only [hl215001_16] at HO_223001)
     (try simp only [hl215001_16] at HO_223002)
     have hl215002_16 := (Kd.R_reads' HO_215002.out).1
     rw [hl215002_16] at HO_215002
     (try simp only [hl215002_16])
     (try simp only [hl215002_16] at BK190)
     (try simp only [hl215002_16] at BK206)
     (try simp only [hl215002_16] at BK214)
     (try simp only [hl215002_16] at BK222)
     (try simp only [hl215002_16] at HO_207001)
     (try simp only [hl215002_16] at HO_207002)
     (try simp only [hl215002_16] at HO_215001)
     (try simp only [hl215002_16] at HO_223001)
     (try simp only [hl215002_16] at HO_223002)
     cases kq with
     | zero => exact absurd HA.out (by simp [laws_FnExactDualOf.j0])
     | succ kj16 =>
      have H := HA.out
      clear HA
      simp only [laws_FnExactDualOf.j0] at H
      by_cases c66 : x42_16 = true
      ·subst c66
       have H1 : (some false) = some r := by rw [if_pos rfl] at H; exact H
       clear H
       have H := H1
       clear H1
       exact absurd H (by simp [ht_])
      ·replace c66 := Bool.eq_false_iff.mpr c66
       subst c66
       have H1 : ((laws_markMachine.f kj16 t215 t216 t219 1).bind fun bt236 => ((laws_heldMachine.f kj16 t215 bt236.2.1 bt236.2.2 1).bind fun t239 => (if t239 < 0 then (some false) else (if t239 = bt236.1 then ((laws_toMachine.f kj16 a0_0 l0_1 l0_2).bind fun bt240 => ((impl_DualOf.f kj16 bt240.1 bt240.2.1 bt240.2.2).bind fun bt247 => ((laws_eqMachine.f kj16 bt247.1 bt247.2.1 bt247.2.2 t199 t200 t203).bind fun t255 => (if t255 = true then ((laws_heldMachine.f kj16 t215 bt236.2.1 bt236.2.2 1).bind fun t256 => (if t256 < 0 then (some false) else (if t256 = bt236.1 then (some true) else (some false)))) else (some false))))) else (some false))))) = some r := by rw [if_neg (show ¬ (false = true) by decide)] at H; exact H
       clear H
       have H := H1
       clear H1
       replace H := Option.bind_eq_some_iff.mp H
       obtain ⟨⟨t236, t237, t238⟩, A670, H⟩ := H
       replace H : ((laws_heldMachine.f kj16 t215 t237 t238 1).bind fun t239 => (if t239 < 0 then (some false) else (if t239 = t236 then ((laws_toMachine.f kj16 a0_0 l0_1 l0_2).bind fun bt240 => ((impl_DualOf.f kj16 bt240.1 bt240.2.1 bt240.2.2).bind fun bt247 => ((laws_eqMachine.f kj16 bt247.1 bt247.2.1 bt247.2.2 t199 t200 t203).bind fun t255 => (if t255 = true then ((laws_heldMachine.f kj16 t215 t237 t238 1).bind fun t256 => (if t256 < 0 then (some false) else (if t256 = t236 then (some true) else (some false)))) else (some false))))) else (some false)))) = some r := H
       have A67 := Aside0.mk A670
       clear A670
       replace H := Option.bind_eq_some_iff.mp H
       obtain ⟨t239, A680, H⟩ := H
       replace H : (if t239 < 0 then (some false) else (if t239 = t236 then ((laws_toMachine.f kj16 a0_0 l0_1 l0_2).bind fun bt240 => ((impl_DualOf.f kj16 bt240.1 bt240.2.1 bt240.2.2).bind fun bt247 => ((laws_eqMachine.f kj16 bt247.1 bt247.2.1 bt247.2.2 t199 t200 t203).bind fun t255 => (if t255 = true then ((laws_heldMachine.f kj16 t215 t237 t238 1).bind fun t256 => (if t256 < 0 then (some false) else (if t256 = t236 then (some true) else (some false)))) else (some false))))) else (some false))) = some r := H
       have A68 := Aside0.mk A680
       clear A680
       by_cases c69 : t239 < 0
       ·rw [if_pos c69] at H
        have c69b0 : decide (t239 < 0) = true := decide_eq_true c69
        clear c69
        exact absurd H (by simp [ht_])
       ·rw [if_neg c69] at H
        have c69b0 : decide (t239 < 0) = false := decide_eq_false c69
        clear c69
        by_cases c70 : t239 = t236
        ·rw [if_pos c70] at H
         have c70b0 : (t239 == t236) = true := beq_iff_eq.mpr c70
         have c70b1 : (t239 != t236) = false := bne_eq_false_iff_eq.mpr c70
         clear c70
         replace H := Option.bind_eq_some_iff.mp H
         obtain ⟨⟨t240, t241, t244⟩, A710, H⟩ := H
         replace H : ((impl_DualOf.f kj16 t240 t241 t244).bind fun bt247 => ((laws_eqMachine.f kj16 bt247.1 bt247.2.1 bt247.2.2 t199 t200 t203).bind fun t255 => (if t255 = true then ((laws_heldMachine.f kj16 t215 t237 t238 1).bind fun t256 => (if t256 < 0 then (some false) else (if t256 = t236 then (some true) else (some false)))) else (some false)))) = some r := H
         have A71 := Aside0.mk A710
         clear A710
         replace H := Option.bind_eq_some_iff.mp H
         obtain ⟨⟨t247, t248, t251⟩, A720, H⟩ := H
         replace H : ((laws_eqMachine.f kj16 t247 t248 t251 t199 t200 t203).bind fun t255 => (if t255 = true then ((laws_heldMachine.f kj16 t215 t237 t238 1).bind fun t256 => (if t256 < 0 then (some false) else (if t256 = t236 then (some true) else (some false)))) else (some false))) = some r := H
         have A72 := Aside0.mk A720
         clear A720
         replace H := Option.bind_eq_some_iff.mp H
         obtain ⟨t255, A730, H⟩ := H
         replace H : (if t255 = true then ((laws_heldMachine.f kj16 t215 t237 t238 1).bind fun t256 => (if t256 < 0 then (some false) else (if t256 = t236 then (some true) else (some false)))) else (some false)) = some r := H
         have A73 := Aside0.mk A730
         clear A730
         by_cases c74 : t255 = true
         ·subst c74
          have H1 : ((laws_heldMachine.f kj16 t215 t237 t238 1).bind fun t256 => (if t256 < 0 then (some false) else (if t256 = t236 then (some true) else (some false)))) = some r := by rw [if_pos rfl] at H; exact H
          clear H
          have H := H1
          clear H1
          replace H := Option.bind_eq_some_iff.mp H
          obtain ⟨t256, A750, H⟩ := H
          replace H : (if t256 < 0 then (some false) else (if t256 = t236 then (some true) else (some false))) = some r := H
          have A75 := Aside0.mk A750
          clear A750
          by_cases c76 : t256 < 0
          ·rw [if_pos c76] at H
           have c76b0 : decide (t256 < 0) = true := decide_eq_true c76
           clear c76
           exact absurd H (by simp [ht_])
          ·rw [if_neg c76] at H
           have c76b0 : decide (t256 < 0) = false := decide_eq_false c76
           clear c76
           by_cases c77 : t256 = t236
           ·rw [if_pos c77] at H
            have c77b0 : (t256 == t236) = true := beq_iff_eq.mpr c77
            have c77b1 : (t256 != t236) = false := bne_eq_false_iff_eq.mpr c77
            clear c77
            obtain rfl := Option.some.inj H
            have hnb78 := NB222_190.out
            have hnc78 := NB190_222.out
            have hnb79 := NB222_206.out
            have hnc79 := NB206_222.out
            have hnb80 := NB222_214.out
            have hnc80 := NB214_222.out
            have hcz81_0 := bc0 BK222
            have hcz81_1 := bc1 BK222
            have hcz81_2 := bc2 BK222
            have hfz81_0 := bf BK222 0
            have hfz81_1 := bf BK222 1
            have hfz81_2 := bf BK222 2
            go_wp2_with (first | ((with_reducible refine gate_callee (f := 11) rfl ?_); refine goesL_ (some 45) rfl rfl Try.func11 (by kernel_rfl) rfl #[.agg #[.int .i64 t215, .slice Ao45 t216.length co45, .slice Ao46 t219.length co46], .int .i64 1] rfl zG ?_; (with_reducible refine (laws_markMachine.calls kj16 t215 (fun k_ => some k_ = (.slice Ao45 t216.length co45 : Value).ownBlock) (.slice Ao45 t216.length co45) t216 (fun k_ => some k_ = (.slice Ao46 t219.length co46 : Value).ownBlock) (.slice Ao46 t219.length co46) t219 1 t236 t237 t238 w _ ?side1 ?side2 ?side3 A67.out).mono ?_); (case side1 => repeat (first | (with_reducible first | exact HB.out | apply below_alloc | apply pw_below_drewN | apply below_drew1 | refine below_set ?_ GE190.out | refine below_set ?_ GE206.out | refine below_set ?_ GE214.out | refine below_set ?_ GE222.out) | exact HB.out)); (case side2 => exact Kd.R_tight rfl HO_223001.out); (case side3 => exact Kd.R_tight rfl HO_223002.out); rintro e w82 ⟨rfl, hy0, hy1, hb, hkp⟩; refine ⟨_, rfl, ?_⟩; have n0_ := Aside0.mk (Kd.R_mono (ok' := fun k_ => some k_ ≠ (.slice Ao37 t233.length co37 : Value).ownBlock ∧ some k_ ≠ (.slice Ao45 t216.length co45 : Value).ownBlock) (Kd.R_keptB ((Kd.R_apart' HO_207001.out (Kd.R_typed HO_223002.out) (by decide))) hkp (fun k_ hk_ hs_ => Or.elim hs_ (fun e_ => ne_pick hk_ e_) (fun e_ => ne_pick hk_ e_))) (fun k_ hk_ => ⟨(pick hk_), (pick hk_)⟩)); have n1_ := Aside0.mk (Kd.R_mono (ok' := fun k_ => some k_ ≠ (.slice Ao38 t234.length co38 : Value).ownBlock ∧ some k_ ≠ (.slice Ao46 t219.length co46 : Value).ownBlock) (Kd.R_keptB ((Kd.R_apart' HO_207002.out (Kd.R_typed HO_223001.out) (by decide))) hkp (fun k_ hk_ hs_ => Or.elim hs_ (fun e_ => ne_pick hk_ e_) (fun e_ => ne_pick hk_ e_))) (fun k_ hk_ => ⟨(pick hk_), (pick hk_)⟩)); have n2_ := Aside0.mk (Kd.R_mono (ok' := fun k_ => some k_ ≠ (.slice Ao29 t200.length co29 : Value).ownBlock ∧ some k_ ≠ (.slice Ao45 t216.length co45 : Value).ownBlock) (Kd.R_keptB ((Kd.R_apart' HO_215001.out (Kd.R_typed HO_223002.out) (by decide))) hkp (fun k_ hk_ hs_ => Or.elim hs_ (fun e_ => ne_pick hk_ e_) (fun e_ => ne_pick hk_ e_))) (fun k_ hk_ => ⟨(pick hk_), (pick hk_)⟩)); have n3_ := Aside0.mk (Kd.R_mono (ok' := fun k_ => some k_ ≠ (.slice Ao30 t203.length co30 : Value).ownBlock ∧ some k_ ≠ (.slice Ao46 t219.length co46 : Value).ownBlock) (Kd.R_keptB ((Kd.R_apart' HO_215002.out (Kd.R_typed HO_223001.out) (by decide))) hkp (fun k_ hk_ hs_ => Or.elim hs_ (fun e_ => ne_pick hk_ e_) (fun e_ => ne_pick hk_ e_))) (fun k_ hk_ => ⟨(pick hk_), (pick hk_)⟩)); have n4_ := Aside0.mk (Kd.R_reok rfl hy0 (fun k_ e_ => HO_223001.out.1 k_ e_)); have n5_ := Aside0.mk (Kd.R_reok rfl hy1 (fun k_ e_ => HO_223002.out.1 k_ e_)); have n6_ := Aside0.mk (blk_kept (zK BK190) hkp (fun hs_ => Or.elim hs_ (fun e_ => (fun e_ => (Kd.R_ne HO_223001.out BK190.out (by decide)) e_) e_) (fun e_ => (fun e_ => (Kd.R_ne HO_223002.out BK190.out (by decide)) e_) e_))); have n7_ := Aside0.mk (blk_kept (zK BK206) hkp (fun hs_ => Or.elim hs_ (fun e_ => (fun e_ => (Kd.R_ne HO_223001.out BK206.out (by decide)) e_) e_) (fun e_ => (fun e_ => (Kd.R_ne HO_223002.out BK206.out (by decide)) e_) e_))); have n8_ := Aside0.mk (blk_kept (zK BK214) hkp (fun hs_ => Or.elim hs_ (fun e_ => (fun e_ => (Kd.R_ne HO_223001.out BK214.out (by decide)) e_) e_) (fun e_ => (fun e_ => (Kd.R_ne HO_223002.out BK214.out (by decide)) e_) e_))); have n9_ := Aside0.mk (blk_kept (zK BK222) hkp (fun hs_ => Or.elim hs_ (fun e_ => (fun e_ => (Kd.R_ne HO_223001.out BK222.out (by decide)) e_) e_) (fun e_ => (fun e_ => (Kd.R_ne HO_223002.out BK222.out (by decide)) e_) e_))); have n10_ := Aside0.mk (hb); clear HO_207001; clear HO_207002; clear HO_215001; clear HO_215002; clear HO_223001; clear HO_223002; clear BK190; clear BK206; clear BK214; clear BK222; clear HB; have HO_207001 := n0_; have HO_207002 := n1_; have HO_215001 := n2_; have HO_215002 := n3_; have HO_223001 := n4_; have HO_223002 := n5_; have BK190 := n6_; have BK206 := n7_; have BK214 := n8_; have BK222 := n9_; have HB := n10_; clear n0_ n1_ n2_ n3_ n4_ n5_ n6_ n7_ n8_ n9_ n10_; (try clear hb); (try clear hkp); (try clear hy0); (try clear hy1); have hcz83_0 := bc0 BK222; have hcz83_1 := bc1 BK222; have hcz83_2 := bc2 BK222; have hfz83_0 := bf BK222 0; have hfz83_1 := bf BK222 1; have hfz83_2 := bf BK222 2) | ((with_reducible refine gate_callee (f := 12) rfl ?_); refine goesL_ (some 48) rfl rfl Try.func12 (by kernel_rfl) rfl #[.agg #[.int .i64 t215, .slice Ao45 t237.length co45, .slice Ao46 t238.length co46], .int .i64 1] rfl (by (try simp only [List.map_toArray, List.map_cons, List.map_nil]); first | done | (rw [show t237.length = t216.length from (Kd.R_reads' HO_223001.out).1.symm, show t238.length = t219.length from (Kd.R_reads' HO_223002.out).1.symm] <;> rfl) | rfl | (simp only [List.length_drop, List.length_take]; rfl)) ?_; (with_reducible refine (laws_heldMachine.calls kj16 t215 _ _ t237 _ _ t238 1 t239 _ ?side1 ?side2 ?side3 ?side4 A68.out).mono ?_); (case side1 => repeat (first | exact (Kd.R_reads' HO_223001.out).2.2 | (with_reducible refine Kd.C_alloc ?_ _) | (with_reducible refine Kd.C_drewN ?_ _) | (with_reducible refine Kd.C_drew ?_))); (case side2 => rw [show t237.length = t216.length from (Kd.R_reads' HO_223001.out).1.symm]; exact (Kd.R_reads' HO_223001.out).2.1); (case side3 => repeat (first | exact (Kd.R_reads' HO_223002.out).2.2 | (with_reducible refine Kd.C_alloc ?_ _) | (with_reducible refine Kd.C_drewN ?_ _) | (with_reducible refine Kd.C_drew ?_))); (case side4 => rw [show t238.length = t219.length from (Kd.R_reads' HO_223002.out).1.symm]; exact (Kd.R_reads' HO_223002.out).2.1); rintro e w84 ⟨rfl, hb⟩; refine ⟨_, rfl, ?_⟩; have n0_ := Aside0.mk (Kd.R_below (zR HO_207001) hb); have n1_ := Aside0.mk (Kd.R_below (zR HO_207002) hb); have n2_ := Aside0.mk (Kd.R_below (zR HO_215001) hb); have n3_ := Aside0.mk (Kd.R_below (zR HO_215002) hb); have n4_ := Aside0.mk (Kd.R_below (zR HO_223001) hb); have n5_ := Aside0.mk (Kd.R_below (zR HO_223002) hb); have n6_ := kB BK190 hb; have n7_ := kB BK206 hb; have n8_ := kB BK214 hb; have n9_ := kB BK222 hb; have n10_ := bS HB hb; clear HO_207001; clear HO_207002; clear HO_215001; clear HO_215002; clear HO_223001; clear HO_223002; clear BK190; clear BK206; clear BK214; clear BK222; clear HB; have HO_207001 := n0_; have HO_207002 := n1_; have HO_215001 := n2_; have HO_215002 := n3_; have HO_223001 := n4_; have HO_223002 := n5_; have BK190 := n6_; have BK206 := n7_; have BK214 := n8_; have BK222 := n9_; have HB := n10_; clear n0_ n1_ n2_ n3_ n4_ n5_ n6_ n7_ n8_ n9_ n10_; (try clear hb); have hnb85 := NB190_206.out; have hnc85 := NB206_190.out; have hnb86 := NB190_214.out; have hnc86 := NB214_190.out; have hcz87_0 := bc0 BK190; have hcz87_1 := bc1 BK190; have hcz87_2 := bc2 BK190; have hfz87_0 := bf BK190 0; have hfz87_1 := bf BK190 1; have hfz87_2 := bf BK190 2) | ((with_reducible refine gate_callee (f := 8) rfl ?_); refine goesL_ (some 55) rfl rfl Try.func8 (by kernel_rfl) rfl #[.agg #[.int .i64 a0_0, .slice A0_1 l0_1.length c0_1, .slice A0_2 l0_2.length c0_2]] rfl zG ?_; (with_reducible refine (laws_toMachine.calls kj16 a0_0 _ _ l0_1 _ _ l0_2 t240 t241 t244 _ ?side1 ?side2 ?side3 ?side4 A71.out).mono ?_); (case side1 => exact cS HR0_1 HB); (case side2 => exact HC0_1.out); (case side3 => exact cS HR0_2 HB); (case side4 => exact HC0_2.out); rintro e w88 ⟨v242, v245, rfl, ho0, ho1, hb⟩; refine ⟨_, rfl, ?_⟩; have n0_ := Aside0.mk (Kd.R_elder' (zR HO_207001) (Kd.R_base ho0) hb); have n1_ := Aside0.mk (Kd.R_elder' (zR HO_207002) (Kd.R_base ho1) hb); have n2_ := Aside0.mk (Kd.R_elder' (zR HO_215001) (Kd.R_base ho0) hb); have n3_ := Aside0.mk (Kd.R_elder' (zR HO_215002) (Kd.R_base ho1) hb); have n4_ := Aside0.mk (Kd.R_elder' (zR HO_223001) (Kd.R_base ho0) hb); have n5_ := Aside0.mk (Kd.R_elder' (zR HO_223002) (Kd.R_base ho1) hb); have n6_ := Aside0.mk (Kd.R_lower (Kd.R_new' (Kd.R_new' (Kd.R_new' ho0 (Kd.R_lt (zR HO_207001))) (Kd.R_lt (zR HO_215001))) (Kd.R_lt (zR HO_223001))) (below_size (zB HB))); have n7_ := Aside0.mk (Kd.R_lower (Kd.R_new' (Kd.R_new' (Kd.R_new' ho1 (Kd.R_lt (zR HO_207002))) (Kd.R_lt (zR HO_215002))) (Kd.R_lt (zR HO_223002))) (below_size (zB HB))); have n8_ := kB BK190 hb; have n9_ := kB BK206 hb; have n10_ := kB BK214 hb; have n11_ := kB BK222 hb; have n12_ := bS HB hb; clear HO_207001; clear HO_207002; clear HO_215001; clear HO_215002; clear HO_223001; clear HO_223002; clear BK190; clear BK206; clear BK214; clear BK222; clear HB; have HO_207001 := n0_; have HO_207002 := n1_; have HO_215001 := n2_; have HO_215002 := n3_; have HO_223001 := n4_; have HO_223002 := n5_; have HO243 := n6_; have HO246 := n7_; have BK190 := n8_; have BK206 := n9_; have BK214 := n10_; have BK222 := n11_; have HB := n12_; clear n0_ n1_ n2_ n3_ n4_ n5_ n6_ n7_ n8_ n9_ n10_ n11_ n12_; (try clear hb); (try clear ho0); (try clear ho1); obtain ⟨Ao89, co89, eo89⟩ := Kd.R_slice HO243.out; subst eo89; obtain ⟨Ao90, co90, eo90⟩ := Kd.R_slice HO246.out; subst eo90) | ((with_reducible refine gate_callee (f := 9) rfl ?_); refine goesL_ (some 56) rfl rfl Try.func9 (by kernel_rfl) rfl #[.agg #[.int .i64 t240, .slice Ao89 t241.length co89, .slice Ao90 t244.length co90]] rfl zG ?_; (with_reducible refine (impl_DualOf.calls kj16 t240 _ _ t241 _ _ t244 t247 t248 t251 _ ?side1 ?side2 ?side3 ?side4 A72.out).mono ?_); (case side1 => repeat (first | exact (Kd.R_reads' HO243.out).2.2 | (with_reducible refine Kd.C_alloc ?_ _) | (with_reducible refine Kd.C_drewN ?_ _) | (with_reducible refine Kd.C_drew ?_))); (case side2 => exact (Kd.R_reads' HO243.out).2.1); (case side3 => repeat (first | exact (Kd.R_reads' HO246.out).2.2 | (with_reducible refine Kd.C_alloc ?_ _) | (with_reducible refine Kd.C_drewN ?_ _) | (with_reducible refine Kd.C_drew ?_))); (case side4 => exact (Kd.R_reads' HO246.out).2.1); rintro e w91 ⟨v249, v252, rfl, ho0, ho1, hb⟩; refine ⟨_, rfl, ?_⟩; have n0_ := Aside0.mk (Kd.R_elder' (zR HO_207001) (Kd.R_base ho0) hb); have n1_ := Aside0.mk (Kd.R_elder' (zR HO_207002) (Kd.R_base ho1) hb); have n2_ := Aside0.mk (Kd.R_elder' (zR HO_215001) (Kd.R_base ho0) hb); have n3_ := Aside0.mk (Kd.R_elder' (zR HO_215002) (Kd.R_base ho1) hb); have n4_ := Aside0.mk (Kd.R_elder' (zR HO_223001) (Kd.R_base ho0) hb); have n5_ := Aside0.mk (Kd.R_elder' (zR HO_223002) (Kd.R_base ho1) hb); have n6_ := Aside0.mk (Kd.R_elder' (zR HO243) (Kd.R_base ho0) hb); have n7_ := Aside0.mk (Kd.R_elder' (zR HO246) (Kd.R_base ho1) hb); have n8_ := Aside0.mk (Kd.R_lower (Kd.R_new' (Kd.R_new' (Kd.R_new' (Kd.R_new' ho0 (Kd.R_lt (zR HO_207001))) (Kd.R_lt (zR HO_215001))) (Kd.R_lt (zR HO_223001))) (Kd.R_lt (zR HO243))) (below_size (zB HB))); have n9_ := Aside0.mk (Kd.R_lower (Kd.R_new' (Kd.R_new' (Kd.R_new' (Kd.R_new' ho1 (Kd.R_lt (zR HO_207002))) (Kd.R_lt (zR HO_215002))) (Kd.R_lt (zR HO_223002))) (Kd.R_lt (zR HO246))) (below_size (zB HB))); have n10_ := kB BK190 hb; have n11_ := kB BK206 hb; have n12_ := kB BK214 hb; have n13_ := kB BK222 hb; have n14_ := bS HB hb; clear HO_207001; clear HO_207002; clear HO_215001; clear HO_215002; clear HO_223001; clear HO_223002; clear HO243; clear HO246; clear BK190; clear BK206; clear BK214; clear BK222; clear HB; have HO_207001 := n0_; have HO_207002 := n1_; have HO_215001 := n2_; have HO_215002 := n3_; have HO_223001 := n4_; have HO_223002 := n5_; have HO243 := n6_; have HO246 := n7_; have HO250 := n8_; have HO253 := n9_; have BK190 := n10_; have BK206 := n11_; have BK214 := n12_; have BK222 := n13_; have HB := n14_; clear n0_ n1_ n2_ n3_ n4_ n5_ n6_ n7_ n8_ n9_ n10_ n11_ n12_ n13_ n14_; (try clear hb); (try clear ho0); (try clear ho1)) | ((with_reducible refine gate_dst (N := 10) rfl ?_); refine box_event ?hg (N := 10) ?hd (cs := #[.int .i64 0, .slice none 0 0, .slice none 0 0]) (t := 29) ?hr ?_; (case hd => rfl); (case hg => rfl); (case hr => first | (go_simp; done) | (go_simp; rfl)); intro gb254 hg w92 hbox hb; have n0_ := Aside0.mk (Kd.R_below (zR HO_207001) hb); have n1_ := Aside0.mk (Kd.R_below (zR HO_207002) hb); have n2_ := Aside0.mk (Kd.R_below (zR HO_215001) hb); have n3_ := Aside0.mk (Kd.R_below (zR HO_215002) hb); have n4_ := Aside0.mk (Kd.R_below (zR HO_223001) hb); have n5_ := Aside0.mk (Kd.R_below (zR HO_223002) hb); have n6_ := Aside0.mk (Kd.R_below (zR HO243) hb); have n7_ := Aside0.mk (Kd.R_below (zR HO246) hb); have n8_ := Aside0.mk (Kd.R_below (zR HO250) hb); have n9_ := Aside0.mk (Kd.R_below (zR HO253) hb); have n10_ := kB BK190 hb; have n11_ := kB BK206 hb; have n12_ := kB BK214 hb; have n13_ := kB BK222 hb; have n14_ := bS HB hb; have n15_ := Aside0.mk (hbox); have n16_ := gS HB hg; have n17_ := gS HB hg; have n18_ := Aside0.mk ((by rw [hg]; exact Nat.ne_of_lt (blk_lt (g := gb190) (o := .cells #[.int .i64 a0_0, .slice A0_1 l0_1.length c0_1, .slice A0_2 l0_2.length c0_2] 25 (0, 0)) (zK BK190)) : gb190 ≠ gb254)); have n19_ := Aside0.mk ((by rw [hg]; exact Nat.ne_of_gt (blk_lt (g := gb190) (o := .cells #[.int .i64 a0_0, .slice A0_1 l0_1.length c0_1, .slice A0_2 l0_2.length c0_2] 25 (0, 0)) (zK BK190)) : gb254 ≠ gb190)); have n20_ := Aside0.mk ((by rw [hg]; exact Nat.ne_of_lt (blk_lt (g := gb206) (o := .cells #[.int .i64 t199, .slice Ao29 t200.length co29, .slice Ao30 t203.length co30] 29 (0, 0)) (zK BK206)) : gb206 ≠ gb254)); have n21_ := Aside0.mk ((by rw [hg]; exact Nat.ne_of_gt (blk_lt (g := gb206) (o := .cells #[.int .i64 t199, .slice Ao29 t200.length co29, .slice Ao30 t203.length co30] 29 (0, 0)) (zK BK206)) : gb254 ≠ gb206)); have n22_ := Aside0.mk ((by rw [hg]; exact Nat.ne_of_lt (blk_lt (g := gb214) (o := .cells #[.int .i64 t207, .slice Ao37 t233.length co37, .slice Ao38 t234.length co38] 29 (0, 0)) (zK BK214)) : gb214 ≠ gb254)); have n23_ := Aside0.mk ((by rw [hg]; exact Nat.ne_of_gt (blk_lt (g := gb214) (o := .cells #[.int .i64 t207, .slice Ao37 t233.length co37, .slice Ao38 t234.length co38] 29 (0, 0)) (zK BK214)) : gb254 ≠ gb214)); have n24_ := Aside0.mk ((by rw [hg]; exact Nat.ne_of_lt (blk_lt (g := gb222) (o := .cells #[.int .i64 t215, .slice Ao45 t216.length co45, .slice Ao46 t219.length co46] 29 (0, 0)) (zK BK222)) : gb222 ≠ gb254)); have n25_ := Aside0.mk ((by rw [hg]; exact Nat.ne_of_gt (blk_lt (g := gb222) (o := .cells #[.int .i64 t215, .slice Ao45 t216.length co45, .slice Ao46 t219.length co46] 29 (0, 0)) (zK BK222)) : gb254 ≠ gb222)); clear HO_207001; clear HO_207002; clear HO_215001; clear HO_215002; clear HO_223001; clear HO_223002; clear HO243; clear HO246; clear HO250; clear HO253; clear BK190; clear BK206; clear BK214; clear BK222; clear HB; have HO_207001 := n0_; have HO_207002 := n1_; have HO_215001 := n2_; have HO_215002 := n3_; have HO_223001 := n4_; have HO_223002 := n5_; have HO243 := n6_; have HO246 := n7_; have HO250 := n8_; have HO253 := n9_; have BK190 := n10_; have BK206 := n11_; have BK214 := n12_; have BK222 := n13_; have HB := n14_; have BK254 := n15_; have GW254 := n16_; have GE254 := n17_; have NB190_254 := n18_; have NB254_190 := n19_; have NB206_254 := n20_; have NB254_206 := n21_; have NB214_254 := n22_; have NB254_214 := n23_; have NB222_254 := n24_; have NB254_222 := n25_; clear n0_ n1_ n2_ n3_ n4_ n5_ n6_ n7_ n8_ n9_ n10_ n11_ n12_ n13_ n14_ n15_ n16_ n17_ n18_ n19_ n20_ n21_ n22_ n23_ n24_ n25_; clear hb hbox hg; have hnb93 := NB254_190.out; have hnc93 := NB190_254.out; have hnb94 := NB254_206.out; have hnc94 := NB206_254.out; have hnb95 := NB254_214.out; have hnc95 := NB214_254.out; have hnb96 := NB254_222.out; have hnc96 := NB222_254.out; have hcz97_0 := bc0 BK254; have hcz97_1 := bc1 BK254; have hcz97_2 := bc2 BK254; have hfz97_0 := bf BK254 0; have hfz97_1 := bf BK254 1; have hfz97_2 := bf BK254 2; obtain ⟨Ao98, co98, eo98⟩ := Kd.R_slice HO250.out; subst eo98; obtain ⟨Ao99, co99, eo99⟩ := Kd.R_slice HO253.out; subst eo99; have hnb100 := NB206_214.out; have hnc100 := NB214_206.out; have hcz101_0 := bc0 BK206; have hcz101_1 := bc1 BK206; have hcz101_2 := bc2 BK206; have hfz101_0 := bf BK206 0; have hfz101_1 := bf BK206 1; have hfz101_2 := bf BK206 2) | ((with_reducible refine gate_callee (f := 10) rfl ?_); refine goesL_ (some 59) rfl rfl Try.func10 (by kernel_rfl) rfl #[.agg #[.int .i64 t247, .slice Ao98 t248.length co98, .slice Ao99 t251.length co99], .agg #[.int .i64 t199, .slice Ao29 t200.length co29, .slice Ao30 t203.length co30]] rfl zG ?_; (with_reducible refine (laws_eqMachine.calls kj16 t247 _ _ t248 _ _ t251 t199 _ _ t200 _ _ t203 true _ ?side1 ?side2 ?side3 ?side4 ?side5 ?side6 ?side7 ?side8 A73.out).mono ?_); (case side1 => refine (Kd.R_reads' (e := 4) (base := w.heap.size) (ok := fun k_ => ((((True ∧ some k_ ≠ (.slice Ao29 t200.length co29 : Value).ownBlock) ∧ some k_ ≠ (.slice Ao37 t233.length co37 : Value).ownBlock) ∧ some k_ ≠ (.slice Ao45 t216.length co45 : Value).ownBlock) ∧ some k_ ≠ (.slice Ao89 t241.length co89 : Value).ownBlock)) (n := t248.length) (c := co98) ?_).2.2; exact (by (with_reducible repeat (first | apply Kd.R_alloc | apply Kd.R_drewN | apply Kd.R_drew)); exact (Kd.R_mono (Kd.R_far (p := ⟨gb254, 2, none⟩) (Kd.R_far (p := ⟨gb254, 1, none⟩) (Kd.R_far (p := ⟨gb254, 0, none⟩) (Kd.R_types HO250.out BK254.out (by decide)) (fun _ hk => hk.2) (.int .i64 t247)) (fun _ hk => hk.2) (.slice Ao98 t248.length co98)) (fun _ hk => hk.2) (.slice Ao99 t251.length co99)) (fun _ h_ => h_.1)))); (case side2 => exact (Kd.R_reads' HO250.out).2.1); (case side3 => refine (Kd.R_reads' (e := 54) (base := w.heap.size) (ok := fun k_ => ((((True ∧ some k_ ≠ (.slice Ao30 t203.length co30 : Value).ownBlock) ∧ some k_ ≠ (.slice Ao38 t234.length co38 : Value).ownBlock) ∧ some k_ ≠ (.slice Ao46 t219.length co46 : Value).ownBlock) ∧ some k_ ≠ (.slice Ao90 t244.length co90 : Value).ownBlock)) (n := t251.length) (c := co99) ?_).2.2; exact (by (with_reducible repeat (first | apply Kd.R_alloc | apply Kd.R_drewN | apply Kd.R_drew)); exact (Kd.R_mono (Kd.R_far (p := ⟨gb254, 2, none⟩) (Kd.R_far (p := ⟨gb254, 1, none⟩) (Kd.R_far (p := ⟨gb254, 0, none⟩) (Kd.R_types HO253.out BK254.out (by decide)) (fun _ hk => hk.2) (.int .i64 t247)) (fun _ hk => hk.2) (.slice Ao98 t248.length co98)) (fun _ hk => hk.2) (.slice Ao99 t251.length co99)) (fun _ h_ => h_.1)))); (case side4 => exact (Kd.R_reads' HO253.out).2.1); (case side5 => refine (Kd.R_reads' (e := 4) (base := w.heap.size) (ok := fun k_ => (((some k_ ≠ (.slice Ao37 t233.length co37 : Value).ownBlock ∧ some k_ ≠ (.slice Ao45 t216.length co45 : Value).ownBlock) ∧ some k_ ≠ (.slice Ao89 t241.length co89 : Value).ownBlock) ∧ some k_ ≠ (.slice Ao98 t248.length co98 : Value).ownBlock)) (n := t200.length) (c := co29) ?_).2.2; exact (by (with_reducible repeat (first | apply Kd.R_alloc | apply Kd.R_drewN | apply Kd.R_drew)); exact (Kd.R_mono (Kd.R_far (p := ⟨gb254, 2, none⟩) (Kd.R_far (p := ⟨gb254, 1, none⟩) (Kd.R_far (p := ⟨gb254, 0, none⟩) (Kd.R_types HO_207001.out BK254.out (by decide)) (fun _ hk => hk.2) (.int .i64 t247)) (fun _ hk => hk.2) (.slice Ao98 t248.length co98)) (fun _ hk => hk.2) (.slice Ao99 t251.length co99)) (fun _ h_ => h_.1)))); (case side6 => exact (Kd.R_reads' HO_207001.out).2.1); (case side7 => refine (Kd.R_reads' (e := 54) (base := w.heap.size) (ok := fun k_ => (((some k_ ≠ (.slice Ao38 t234.length co38 : Value).ownBlock ∧ some k_ ≠ (.slice Ao46 t219.length co46 : Value).ownBlock) ∧ some k_ ≠ (.slice Ao90 t244.length co90 : Value).ownBlock) ∧ some k_ ≠ (.slice Ao99 t251.length co99 : Value).ownBlock)) (n := t203.length) (c := co30) ?_).2.2; exact (by (with_reducible repeat (first | apply Kd.R_alloc | apply Kd.R_drewN | apply Kd.R_drew)); exact (Kd.R_mono (Kd.R_far (p := ⟨gb254, 2, none⟩) (Kd.R_far (p := ⟨gb254, 1, none⟩) (Kd.R_far (p := ⟨gb254, 0, none⟩) (Kd.R_types HO_207002.out BK254.out (by decide)) (fun _ hk => hk.2) (.int .i64 t247)) (fun _ hk => hk.2) (.slice Ao98 t248.length co98)) (fun _ hk => hk.2) (.slice Ao99 t251.length co99)) (fun _ h_ => h_.1)))); (case side8 => exact (Kd.R_reads' HO_207002.out).2.1); rintro e w102 ⟨rfl, hb⟩; refine ⟨_, rfl, ?_⟩; have n0_ := Aside0.mk (Kd.R_below (by (with_reducible repeat (first | apply Kd.R_alloc | apply Kd.R_drewN | apply Kd.R_drew)); exact (Kd.R_mono (Kd.R_far (p := ⟨gb254, 2, none⟩) (Kd.R_far (p := ⟨gb254, 1, none⟩) (Kd.R_far (p := ⟨gb254, 0, none⟩) (Kd.R_types HO_207001.out BK254.out (by decide)) (fun _ hk => hk.2) (.int .i64 t247)) (fun _ hk => hk.2) (.slice Ao98 t248.length co98)) (fun _ hk => hk.2) (.slice Ao99 t251.length co99)) (fun _ h_ => h_.1))) hb); have n1_ := Aside0.mk (Kd.R_below (by (with_reducible repeat (first | apply Kd.R_alloc | apply Kd.R_drewN | apply Kd.R_drew)); exact (Kd.R_mono (Kd.R_far (p := ⟨gb254, 2, none⟩) (Kd.R_far (p := ⟨gb254, 1, none⟩) (Kd.R_far (p := ⟨gb254, 0, none⟩) (Kd.R_types HO_207002.out BK254.out (by decide)) (fun _ hk => hk.2) (.int .i64 t247)) (fun _ hk => hk.2) (.slice Ao98 t248.length co98)) (fun _ hk => hk.2) (.slice Ao99 t251.length co99)) (fun _ h_ => h_.1))) hb); have n2_ := Aside0.mk (Kd.R_below (by (with_reducible repeat (first | apply Kd.R_alloc | apply Kd.R_drewN | apply Kd.R_drew)); exact (Kd.R_mono (Kd.R_far (p := ⟨gb254, 2, none⟩) (Kd.R_far (p := ⟨gb254, 1, none⟩) (Kd.R_far (p := ⟨gb254, 0, none⟩) (Kd.R_types HO_215001.out BK254.out (by decide)) (fun _ hk => hk.2) (.int .i64 t247)) (fun _ hk => hk.2) (.slice Ao98 t248.length co98)) (fun _ hk => hk.2) (.slice Ao99 t251.length co99)) (fun _ h_ => h_.1))) hb); have n3_ := Aside0.mk (Kd.R_below (by (with_reducible repeat (first | apply Kd.R_alloc | apply Kd.R_drewN | apply Kd.R_drew)); exact (Kd.R_mono (Kd.R_far (p := ⟨gb254, 2, none⟩) (Kd.R_far (p := ⟨gb254, 1, none⟩) (Kd.R_far (p := ⟨gb254, 0, none⟩) (Kd.R_types HO_215002.out BK254.out (by decide)) (fun _ hk => hk.2) (.int .i64 t247)) (fun _ hk => hk.2) (.slice Ao98 t248.length co98)) (fun _ hk => hk.2) (.slice Ao99 t251.length co99)) (fun _ h_ => h_.1))) hb); have n4_ := Aside0.mk (Kd.R_below (by (with_reducible repeat (first | apply Kd.R_alloc | apply Kd.R_drewN | apply Kd.R_drew)); exact (Kd.R_mono (Kd.R_far (p := ⟨gb254, 2, none⟩) (Kd.R_far (p := ⟨gb254, 1, none⟩) (Kd.R_far (p := ⟨gb254, 0, none⟩) (Kd.R_types HO_223001.out BK254.out (by decide)) (fun _ hk => hk.2) (.int .i64 t247)) (fun _ hk => hk.2) (.slice Ao98 t248.length co98)) (fun _ hk => hk.2) (.slice Ao99 t251.length co99)) (fun _ h_ => h_.1))) hb); have n5_ := Aside0.mk (Kd.R_below (by (with_reducible repeat (first | apply Kd.R_alloc | apply Kd.R_drewN | apply Kd.R_drew)); exact (Kd.R_mono (Kd.R_far (p := ⟨gb254, 2, none⟩) (Kd.R_far (p := ⟨gb254, 1, none⟩) (Kd.R_far (p := ⟨gb254, 0, none⟩) (Kd.R_types HO_223002.out BK254.out (by decide)) (fun _ hk => hk.2) (.int .i64 t247)) (fun _ hk => hk.2) (.slice Ao98 t248.length co98)) (fun _ hk => hk.2) (.slice Ao99 t251.length co99)) (fun _ h_ => h_.1))) hb); have n6_ := Aside0.mk (Kd.R_below (by (with_reducible repeat (first | apply Kd.R_alloc | apply Kd.R_drewN | apply Kd.R_drew)); exact (Kd.R_mono (Kd.R_far (p := ⟨gb254, 2, none⟩) (Kd.R_far (p := ⟨gb254, 1, none⟩) (Kd.R_far (p := ⟨gb254, 0, none⟩) (Kd.R_types HO243.out BK254.out (by decide)) (fun _ hk => hk.2) (.int .i64 t247)) (fun _ hk => hk.2) (.slice Ao98 t248.length co98)) (fun _ hk => hk.2) (.slice Ao99 t251.length co99)) (fun _ h_ => h_.1))) hb); have n7_ := Aside0.mk (Kd.R_below (by (with_reducible repeat (first | apply Kd.R_alloc | apply Kd.R_drewN | apply Kd.R_drew)); exact (Kd.R_mono (Kd.R_far (p := ⟨gb254, 2, none⟩) (Kd.R_far (p := ⟨gb254, 1, none⟩) (Kd.R_far (p := ⟨gb254, 0, none⟩) (Kd.R_types HO246.out BK254.out (by decide)) (fun _ hk => hk.2) (.int .i64 t247)) (fun _ hk => hk.2) (.slice Ao98 t248.length co98)) (fun _ hk => hk.2) (.slice Ao99 t251.length co99)) (fun _ h_ => h_.1))) hb); have n8_ := Aside0.mk (Kd.R_below (by (with_reducible repeat (first | apply Kd.R_alloc | apply Kd.R_drewN | apply Kd.R_drew)); exact (Kd.R_mono (Kd.R_far (p := ⟨gb254, 2, none⟩) (Kd.R_far (p := ⟨gb254, 1, none⟩) (Kd.R_far (p := ⟨gb254, 0, none⟩) (Kd.R_types HO250.out BK254.out (by decide)) (fun _ hk => hk.2) (.int .i64 t247)) (fun _ hk => hk.2) (.slice Ao98 t248.length co98)) (fun _ hk => hk.2) (.slice Ao99 t251.length co99)) (fun _ h_ => h_.1))) hb); have n9_ := Aside0.mk (Kd.R_below (by (with_reducible repeat (first | apply Kd.R_alloc | apply Kd.R_drewN | apply Kd.R_drew)); exact (Kd.R_mono (Kd.R_far (p := ⟨gb254, 2, none⟩) (Kd.R_far (p := ⟨gb254, 1, none⟩) (Kd.R_far (p := ⟨gb254, 0, none⟩) (Kd.R_types HO253.out BK254.out (by decide)) (fun _ hk => hk.2) (.int .i64 t247)) (fun _ hk => hk.2) (.slice Ao98 t248.length co98)) (fun _ hk => hk.2) (.slice Ao99 t251.length co99)) (fun _ h_ => h_.1))) hb); have n10_ := Aside0.mk (blk_below (g := gb190) (o := .cells #[.int .i64 a0_0, .slice A0_1 l0_1.length c0_1, .slice A0_2 l0_2.length c0_2] 25 (0, 0)) (by (with_reducible repeat (first | refine blk_drewN ?_ _ | refine blk_drew ?_ | refine blk_alloc ?_ _)); refine blk_far ?_ NB190_254.out _; (with_reducible repeat (first | refine blk_drewN ?_ _ | refine blk_drew ?_ | refine blk_alloc ?_ _)); refine blk_far ?_ NB190_254.out _; (with_reducible repeat (first | refine blk_drewN ?_ _ | refine blk_drew ?_ | refine blk_alloc ?_ _)); refine blk_far ?_ NB190_254.out _; (with_reducible repeat (first | refine blk_drewN ?_ _ | refine blk_drew ?_ | refine blk_alloc ?_ _)); exact BK190.out) hb); have n11_ := Aside0.mk (blk_below (g := gb206) (o := .cells #[.int .i64 t199, .slice Ao29 t200.length co29, .slice Ao30 t203.length co30] 29 (0, 0)) (by (with_reducible repeat (first | refine blk_drewN ?_ _ | refine blk_drew ?_ | refine blk_alloc ?_ _)); refine blk_far ?_ NB206_254.out _; (with_reducible repeat (first | refine blk_drewN ?_ _ | refine blk_drew ?_ | refine blk_alloc ?_ _)); refine blk_far ?_ NB206_254.out _; (with_reducible repeat (first | refine blk_drewN ?_ _ | refine blk_drew ?_ | refine blk_alloc ?_ _)); refine blk_far ?_ NB206_254.out _; (with_reducible repeat (first | refine blk_drewN ?_ _ | refine blk_drew ?_ | refine blk_alloc ?_ _)); exact BK206.out) hb); have n12_ := Aside0.mk (blk_below (g := gb214) (o := .cells #[.int .i64 t207, .slice Ao37 t233.length co37, .slice Ao38 t234.length co38] 29 (0, 0)) (by (with_reducible repeat (first | refine blk_drewN ?_ _ | refine blk_drew ?_ | refine blk_alloc ?_ _)); refine blk_far ?_ NB214_254.out _; (with_reducible repeat (first | refine blk_drewN ?_ _ | refine blk_drew ?_ | refine blk_alloc ?_ _)); refine blk_far ?_ NB214_254.out _; (with_reducible repeat (first | refine blk_drewN ?_ _ | refine blk_drew ?_ | refine blk_alloc ?_ _)); refine blk_far ?_ NB214_254.out _; (with_reducible repeat (first | refine blk_drewN ?_ _ | refine blk_drew ?_ | refine blk_alloc ?_ _)); exact BK214.out) hb); have n13_ := Aside0.mk (blk_below (g := gb222) (o := .cells #[.int .i64 t215, .slice Ao45 t216.length co45, .slice Ao46 t219.length co46] 29 (0, 0)) (by (with_reducible repeat (first | refine blk_drewN ?_ _ | refine blk_drew ?_ | refine blk_alloc ?_ _)); refine blk_far ?_ NB222_254.out _; (with_reducible repeat (first | refine blk_drewN ?_ _ | refine blk_drew ?_ | refine blk_alloc ?_ _)); refine blk_far ?_ NB222_254.out _; (with_reducible repeat (first | refine blk_drewN ?_ _ | refine blk_drew ?_ | refine blk_alloc ?_ _)); refine blk_far ?_ NB222_254.out _; (with_reducible repeat (first | refine blk_drewN ?_ _ | refine blk_drew ?_ | refine blk_alloc ?_ _)); exact BK222.out) hb); have n14_ := Aside0.mk (blk_below (g := gb254) (o := .cells #[.int .i64 t247, .slice Ao98 t248.length co98, .slice Ao99 t251.length co99] 29 (0, 0)) (by (with_reducible repeat (first | refine blk_drewN ?_ _ | refine blk_drew ?_ | refine blk_alloc ?_ _)); refine blk_put (cs := #[.int .i64 t247, .slice Ao98 t248.length co98, .slice none 0 0]) ?_ 2 _ rfl; (with_reducible repeat (first | refine blk_drewN ?_ _ | refine blk_drew ?_ | refine blk_alloc ?_ _)); refine blk_put (cs := #[.int .i64 t247, .slice none 0 0, .slice none 0 0]) ?_ 1 _ rfl; (with_reducible repeat (first | refine blk_drewN ?_ _ | refine blk_drew ?_ | refine blk_alloc ?_ _)); refine blk_put (cs := #[.int .i64 0, .slice none 0 0, .slice none 0 0]) ?_ 0 _ rfl; (with_reducible repeat (first | refine blk_drewN ?_ _ | refine blk_drew ?_ | refine blk_alloc ?_ _)); exact BK254.out) hb); have n15_ := bS HB hb; clear HO_207001; clear HO_207002; clear HO_215001; clear HO_215002; clear HO_223001; clear HO_223002; clear HO243; clear HO246; clear HO250; clear HO253; clear BK190; clear BK206; clear BK214; clear BK222; clear BK254; clear HB; have HO_207001 := n0_; have HO_207002 := n1_; have HO_215001 := n2_; have HO_215002 := n3_; have HO_223001 := n4_; have HO_223002 := n5_; have HO243 := n6_; have HO246 := n7_; have HO250 := n8_; have HO253 := n9_; have BK190 := n10_; have BK206 := n11_; have BK214 := n12_; have BK222 := n13_; have BK254 := n14_; have HB := n15_; clear n0_ n1_ n2_ n3_ n4_ n5_ n6_ n7_ n8_ n9_ n10_ n11_ n12_ n13_ n14_ n15_; (try clear hb); have hcz103_0 := bc0 BK222; have hcz103_1 := bc1 BK222; have hcz103_2 := bc2 BK222; have hfz103_0 := bf BK222 0; have hfz103_1 := bf BK222 1; have hfz103_2 := bf BK222 2) | ((with_reducible refine gate_callee (f := 12) rfl ?_); refine goesL_ (some 63) rfl rfl Try.func12 (by kernel_rfl) rfl #[.agg #[.int .i64 t215, .slice Ao45 t237.length co45, .slice Ao46 t238.length co46], .int .i64 1] rfl (by (try simp only [List.map_toArray, List.map_cons, List.map_nil]); first | done | (rw [show t237.length = t216.length from (Kd.R_reads' HO_223001.out).1.symm, show t238.length = t219.length from (Kd.R_reads' HO_223002.out).1.symm] <;> rfl) | rfl | (simp only [List.length_drop, List.length_take]; rfl)) ?_; (with_reducible refine (laws_heldMachine.calls kj16 t215 _ _ t237 _ _ t238 1 t256 _ ?side1 ?side2 ?side3 ?side4 A75.out).mono ?_); (case side1 => repeat (first | exact (Kd.R_reads' HO_223001.out).2.2 | (with_reducible refine Kd.C_alloc ?_ _) | (with_reducible refine Kd.C_drewN ?_ _) | (with_reducible refine Kd.C_drew ?_))); (case side2 => rw [show t237.length = t216.length from (Kd.R_reads' HO_223001.out).1.symm]; exact (Kd.R_reads' HO_223001.out).2.1); (case side3 => repeat (first | exact (Kd.R_reads' HO_223002.out).2.2 | (with_reducible refine Kd.C_alloc ?_ _) | (with_reducible refine Kd.C_drewN ?_ _) | (with_reducible refine Kd.C_drew ?_))); (case side4 => rw [show t238.length = t219.length from (Kd.R_reads' HO_223002.out).1.symm]; exact (Kd.R_reads' HO_223002.out).2.1); rintro e w104 ⟨rfl, hb⟩; refine ⟨_, rfl, ?_⟩; have n0_ := Aside0.mk (Kd.R_below (zR HO_207001) hb); have n1_ := Aside0.mk (Kd.R_below (zR HO_207002) hb); have n2_ := Aside0.mk (Kd.R_below (zR HO_215001) hb); have n3_ := Aside0.mk (Kd.R_below (zR HO_215002) hb); have n4_ := Aside0.mk (Kd.R_below (zR HO_223001) hb); have n5_ := Aside0.mk (Kd.R_below (zR HO_223002) hb); have n6_ := Aside0.mk (Kd.R_below (zR HO243) hb); have n7_ := Aside0.mk (Kd.R_below (zR HO246) hb); have n8_ := Aside0.mk (Kd.R_below (zR HO250) hb); have n9_ := Aside0.mk (Kd.R_below (zR HO253) hb); have n10_ := kB BK190 hb; have n11_ := kB BK206 hb; have n12_ := kB BK214 hb; have n13_ := kB BK222 hb; have n14_ := kB BK254 hb; have n15_ := bS HB hb; clear HO_207001; clear HO_207002; clear HO_215001; clear HO_215002; clear HO_223001; clear HO_223002; clear HO243; clear HO246; clear HO250; clear HO253; clear BK190; clear BK206; clear BK214; clear BK222; clear BK254; clear HB; have HO_207001 := n0_; have HO_207002 := n1_; have HO_215001 := n2_; have HO_215002 := n3_; have HO_223001 := n4_; have HO_223002 := n5_; have HO243 := n6_; have HO246 := n7_; have HO250 := n8_; have HO253 := n9_; have BK190 := n10_; have BK206 := n11_; have BK214 := n12_; have BK222 := n13_; have BK254 := n14_; have HB := n15_; clear n0_ n1_ n2_ n3_ n4_ n5_ n6_ n7_ n8_ n9_ n10_ n11_ n12_ n13_ n14_ n15_; (try clear hb)))
            go_ret
            exact ⟨by first | rfl | (simp [errW_none, errW_some] <;> rfl) | (simp [*, errW_none, errW_some] <;> rfl), by repeat (first | (with_reducible first | exact HB.out | apply below_alloc | apply pw_below_drewN | apply below_drew1 | refine below_set ?_ GE190.out | refine below_set ?_ GE206.out | refine below_set ?_ GE214.out | refine below_set ?_ GE222.out | refine below_set ?_ GE254.out) | exact HB.out)⟩
           ·rw [if_neg c77] at H
            have c77b0 : (t256 == t236) = false := beq_eq_false_iff_ne.mpr c77
            have c77b1 : (t256 != t236) = true := bne_iff_ne.mpr c77
            exact absurd H (by simp [ht_])
         ·replace c74 := Bool.eq_false_iff.mpr c74
          subst c74
          have H1 : (some false) = some r := by rw [if_neg (show ¬ (false = true) by decide)] at H; exact H
          clear H
          have H := H1
          clear H1
          exact absurd H (by simp [ht_])
        ·rw [if_neg c70] at H
         have c70b0 : (t239 == t236) = false := beq_eq_false_iff_ne.mpr c70
         have c70b1 : (t239 != t236) = true := bne_iff_ne.mpr c70
         exact absurd H (by simp [ht_])
   ·replace c15 := Bool.eq_false_iff.mpr c15
    subst c15
    have H1 : (some false) = some r := by rw [if_neg (show ¬ (false = true) by decide)] at H; exact H
    clear H
    have H := H1
    clear H1
    exact absurd H (by simp [ht_])
  ·replace c12 := Bool.eq_false_iff.mpr c12
   subst c12
   have H1 : (some false) = some r := by rw [if_neg (show ¬ (false = true) by decide)] at H; exact H
   clear H
   have H := H1
   clear H1
   exact absurd H (by simp [ht_])
/-- What is known of a value of type 74 that came in. -/
def W74 (x : S74) : Prop := (Lit.int .i64 x.f0).wf = true ∧ True ∧ (Lit.int .i64 x.f2).wf = true ∧ (Lit.int .i64 x.f3).wf = true

/-- The pure statement of laws_FnExactDualOf. -/
def laws_FnExactDualOf.Pure : Prop := ∀ (a0_0 : Int) (l0_1 : List Bool) (l0_2 : List (S74)), (Lit.int .i64 a0_0).wf = true → l0_1.length ≤ 9223372036854775807 → (∀ x ∈ l0_1, True) → l0_2.length ≤ 9223372036854775807 → (∀ x ∈ l0_2, W74 x) → ∃ k, laws_FnExactDualOf.f k a0_0 l0_1 l0_2 = some true

end Go.Proofs.Ytjlaogjikkckkaa.PFnExactDualOf
