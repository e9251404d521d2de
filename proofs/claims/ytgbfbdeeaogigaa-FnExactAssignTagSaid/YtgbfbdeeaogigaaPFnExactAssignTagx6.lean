-- WRITTEN by pp.py, this session's own wrapper around the print; not trusted: Lean checks it
import Derived.Test.YtgbfbdeeaogigaaPFnExactAssignTagx0
import Derived.Test.YtgbfbdeeaogigaaPFnExactAssignTagx1
import Derived.Test.YtgbfbdeeaogigaaPFnExactAssignTagx3
import Derived.Test.YtgbfbdeeaogigaaPFnExactAssignTagx5
namespace Go.Proofs.Ytgbfbdeeaogigaa.PFnExactAssignTag
open Go.RowKit Go.Proofs.Ytgbfbdeeaogigaa.Hw Go.Proofs.YtgbfbdeeaogigaaW.PrintWords Go.Proofs.YtgbfbdeeaogigaaW.PrintLast Go.Proofs.YtgbfbdeeaogigaaW.PrintMore
attribute [local go_sem] max2_int min2_int max_two min_two max_three min_three max_four min_four   -- for this text's walks alone
set_option linter.unusedVariables false
set_option linter.unusedSimpArgs false
set_option linter.unusedSectionVars false

/-! ### laws_FnExactAssignTag: function 3 -/
mutual
def laws_FnExactAssignTag.j0 : Nat → List (S49) → Int → List (S43) → Int → Bool → List (S43) → List (S43) → Int → Bool → Bool → Option (Bool)
 | 0, _, _, _, _, _, _, _, _, _, _ => none
 | k + 1, x0, x1, x6, x7, x8, x9, x10, x11, x12, x54 => if x54 = true then (some false) else ((laws_toEntryS.f k x0).bind fun t225 => ((laws_eqEntryS.f k x9 t225).bind fun t228 => (if t228 = true then ((laws_markEntryS.f k x9 1).bind fun bt229 => (if bt229.1 < 0 then (laws_FnExactAssignTag.j1 k x0 x1 x6 x7 x8 x10 true) else ((laws_eqEntryS.f k x10 x6).bind fun t231 => (if t231 = true then (if x11 = x7 then (laws_FnExactAssignTag.j1 k x0 x1 x6 x7 x8 x10 (x12 != x8)) else (laws_FnExactAssignTag.j1 k x0 x1 x6 x7 x8 x10 true)) else (laws_FnExactAssignTag.j1 k x0 x1 x6 x7 x8 x10 true))))) else (some false))))
def laws_FnExactAssignTag.j1 : Nat → List (S49) → Int → List (S43) → Int → Bool → List (S43) → Bool → Option (Bool)
 | 0, _, _, _, _, _, _, _ => none
 | k + 1, x0, x1, x6, x7, x8, x10, x80 => if x80 = true then (some false) else ((laws_markEntryS.f k x10 1).bind fun bt232 => ((laws_heldEntryS.f k bt232.2 1).bind fun t234 => (if t234 < 0 then (some false) else (if t234 = bt232.1 then ((laws_toEntryS.f k x0).bind fun t235 => ((impl_AssignTag.f k t235 x1).bind fun bt238 => ((laws_eqEntryS.f k bt238.1 x6).bind fun t243 => (if t243 = true then (if bt238.2.1 = x7 then (laws_FnExactAssignTag.j2 k bt232.2 bt232.1 (bt238.2.2 != x8)) else (laws_FnExactAssignTag.j2 k bt232.2 bt232.1 true)) else (laws_FnExactAssignTag.j2 k bt232.2 bt232.1 true))))) else (some false)))))
def laws_FnExactAssignTag.j2 : Nat → List (S43) → Int → Bool → Option (Bool)
 | 0, _, _, _ => none
 | k + 1, x10, x14, x113 => if x113 = true then (some false) else ((laws_heldEntryS.f k x10 1).bind fun t244 => (if t244 < 0 then (some false) else (if t244 = x14 then (some true) else (some false))))
end
def laws_FnExactAssignTag.f (k : Nat) (l0 : List (S49)) (a1 : Int) : Option (Bool) := (laws_szEntryS.f l0 1048576).bind fun t207 => (if t207 < 0 then (some true) else ((laws_toEntryS.f k l0).bind fun t208 => ((spec_AssignTag.f k t208 a1).bind fun bt211 => ((laws_toEntryS.f k l0).bind fun t216 => ((impl_AssignTag.f k t216 a1).bind fun bt219 => ((laws_eqEntryS.f k bt219.1 bt211.1).bind fun t224 => (if t224 = true then (if bt219.2.1 = bt211.2.1 then (laws_FnExactAssignTag.j0 k l0 a1 bt211.1 bt211.2.1 bt211.2.2 t216 bt219.1 bt219.2.1 bt219.2.2 (bt219.2.2 != bt211.2.2)) else (laws_FnExactAssignTag.j0 k l0 a1 bt211.1 bt211.2.1 bt211.2.2 t216 bt219.1 bt219.2.1 bt219.2.2 true)) else (laws_FnExactAssignTag.j0 k l0 a1 bt211.1 bt211.2.1 bt211.2.2 t216 bt219.1 bt219.2.1 bt219.2.2 true))))))))
theorem laws_FnExactAssignTag.mono_l : ∀ k, (∀ y0 y1 y2 y3 y4 y5 y6 y7 y8 y9, LeO (laws_FnExactAssignTag.j0 k y0 y1 y2 y3 y4 y5 y6 y7 y8 y9) (laws_FnExactAssignTag.j0 (k + 1) y0 y1 y2 y3 y4 y5 y6 y7 y8 y9)) ∧ (∀ y0 y1 y2 y3 y4 y5 y6, LeO (laws_FnExactAssignTag.j1 k y0 y1 y2 y3 y4 y5 y6) (laws_FnExactAssignTag.j1 (k + 1) y0 y1 y2 y3 y4 y5 y6)) ∧ (∀ y0 y1 y2, LeO (laws_FnExactAssignTag.j2 k y0 y1 y2) (laws_FnExactAssignTag.j2 (k + 1) y0 y1 y2))
 | 0 => ⟨fun _ _ _ _ _ _ _ _ _ _ r h => by simp [laws_FnExactAssignTag.j0] at h, fun _ _ _ _ _ _ _ r h => by simp [laws_FnExactAssignTag.j1] at h, fun _ _ _ r h => by simp [laws_FnExactAssignTag.j2] at h⟩
 | k + 1 => by
  obtain ⟨ih0, ih1, ih2⟩ := laws_FnExactAssignTag.mono_l k
  refine ⟨?_, ?_, ?_⟩
  ·intro y0 y1 y2 y3 y4 y5 y6 y7 y8 y9
   unfold laws_FnExactAssignTag.j0
   repeat' first
   | (with_reducible exact ih0 _ _ _ _ _ _ _ _ _ _)
   | (with_reducible exact ih1 _ _ _ _ _ _ _)
   | (with_reducible exact ih2 _ _ _)
   | (with_reducible exact impl_AssignTag.mono _ _ _)
   | (with_reducible exact laws_eqEntryS.mono _ _ _)
   | (with_reducible exact laws_heldEntryS.mono _ _ _)
   | (with_reducible exact laws_markEntryS.mono _ _ _)
   | (with_reducible exact laws_toEntryS.mono _ _)
   | (with_reducible exact spec_AssignTag.mono _ _ _)
   | (with_reducible exact LeO.refl _)
   | (with_reducible exact LeO.none _)
   | (with_reducible refine LeO.ite ?_ ?_)
   | (with_reducible refine LeO.bind ?_ (fun _ => ?_))
   | exact ih0 _ _ _ _ _ _ _ _ _ _
   | exact ih1 _ _ _ _ _ _ _
   | exact ih2 _ _ _
   | exact impl_AssignTag.mono _ _ _
   | exact laws_eqEntryS.mono _ _ _
   | exact laws_heldEntryS.mono _ _ _
   | exact laws_markEntryS.mono _ _ _
   | exact laws_toEntryS.mono _ _
   | exact spec_AssignTag.mono _ _ _
   | exact LeO.none _
   | refine LeO.ite ?_ ?_
   | refine LeO.bind ?_ (fun _ => ?_)
  ·intro y0 y1 y2 y3 y4 y5 y6
   unfold laws_FnExactAssignTag.j1
   repeat' first
   | (with_reducible exact ih0 _ _ _ _ _ _ _ _ _ _)
   | (with_reducible exact ih1 _ _ _ _ _ _ _)
   | (with_reducible exact ih2 _ _ _)
   | (with_reducible exact impl_AssignTag.mono _ _ _)
   | (with_reducible exact laws_eqEntryS.mono _ _ _)
   | (with_reducible exact laws_heldEntryS.mono _ _ _)
   | (with_reducible exact laws_markEntryS.mono _ _ _)
   | (with_reducible exact laws_toEntryS.mono _ _)
   | (with_reducible exact spec_AssignTag.mono _ _ _)
   | (with_reducible exact LeO.refl _)
   | (with_reducible exact LeO.none _)
   | (with_reducible refine LeO.ite ?_ ?_)
   | (with_reducible refine LeO.bind ?_ (fun _ => ?_))
   | exact ih0 _ _ _ _ _ _ _ _ _ _
   | exact ih1 _ _ _ _ _ _ _
   | exact ih2 _ _ _
   | exact impl_AssignTag.mono _ _ _
   | exact laws_eqEntryS.mono _ _ _
   | exact laws_heldEntryS.mono _ _ _
   | exact laws_markEntryS.mono _ _ _
   | exact laws_toEntryS.mono _ _
   | exact spec_AssignTag.mono _ _ _
   | exact LeO.none _
   | refine LeO.ite ?_ ?_
   | refine LeO.bind ?_ (fun _ => ?_)
  ·intro y0 y1 y2
   unfold laws_FnExactAssignTag.j2
   repeat' first
   | (with_reducible exact ih0 _ _ _ _ _ _ _ _ _ _)
   | (with_reducible exact ih1 _ _ _ _ _ _ _)
   | (with_reducible exact ih2 _ _ _)
   | (with_reducible exact impl_AssignTag.mono _ _ _)
   | (with_reducible exact laws_eqEntryS.mono _ _ _)
   | (with_reducible exact laws_heldEntryS.mono _ _ _)
   | (with_reducible exact laws_markEntryS.mono _ _ _)
   | (with_reducible exact laws_toEntryS.mono _ _)
   | (with_reducible exact spec_AssignTag.mono _ _ _)
   | (with_reducible exact LeO.refl _)
   | (with_reducible exact LeO.none _)
   | (with_reducible refine LeO.ite ?_ ?_)
   | (with_reducible refine LeO.bind ?_ (fun _ => ?_))
   | exact ih0 _ _ _ _ _ _ _ _ _ _
   | exact ih1 _ _ _ _ _ _ _
   | exact ih2 _ _ _
   | exact impl_AssignTag.mono _ _ _
   | exact laws_eqEntryS.mono _ _ _
   | exact laws_heldEntryS.mono _ _ _
   | exact laws_markEntryS.mono _ _ _
   | exact laws_toEntryS.mono _ _
   | exact spec_AssignTag.mono _ _ _
   | exact LeO.none _
   | refine LeO.ite ?_ ?_
   | refine LeO.bind ?_ (fun _ => ?_)
theorem laws_FnExactAssignTag.mono : ∀ a0 a1 k, LeO (laws_FnExactAssignTag.f k a0 a1) (laws_FnExactAssignTag.f (k + 1) a0 a1) := by
 intro a0 a1 k
 obtain ⟨ih0, ih1, ih2⟩ := laws_FnExactAssignTag.mono_l k
 unfold laws_FnExactAssignTag.f
 repeat' first
   | (with_reducible exact ih0 _ _ _ _ _ _ _ _ _ _)
   | (with_reducible exact ih1 _ _ _ _ _ _ _)
   | (with_reducible exact ih2 _ _ _)
   | (with_reducible exact impl_AssignTag.mono _ _ _)
   | (with_reducible exact laws_eqEntryS.mono _ _ _)
   | (with_reducible exact laws_heldEntryS.mono _ _ _)
   | (with_reducible exact laws_markEntryS.mono _ _ _)
   | (with_reducible exact laws_toEntryS.mono _ _)
   | (with_reducible exact spec_AssignTag.mono _ _ _)
   | (with_reducible exact LeO.refl _)
   | (with_reducible exact LeO.none _)
   | (with_reducible refine LeO.ite ?_ ?_)
   | (with_reducible refine LeO.bind ?_ (fun _ => ?_))
   | exact ih0 _ _ _ _ _ _ _ _ _ _
   | exact ih1 _ _ _ _ _ _ _
   | exact ih2 _ _ _
   | exact impl_AssignTag.mono _ _ _
   | exact laws_eqEntryS.mono _ _ _
   | exact laws_heldEntryS.mono _ _ _
   | exact laws_markEntryS.mono _ _ _
   | exact laws_toEntryS.mono _ _
   | exact spec_AssignTag.mono _ _ _
   | exact LeO.none _
   | refine LeO.ite ?_ ?_
   | refine LeO.bind ?_ (fun _ => ?_)
set_option maxHeartbeats 8000000 in
set_option maxRecDepth 100000 in
theorem laws_FnExactAssignTag.calls (k : Nat) (A0 : Option Addr) (c0 : Nat) (l0 : List (S49)) (a1 : Int) (r : Bool) (w : World) (hr0 : Kd.C k49 w A0 l0.length l0) (hc0 : l0.length ≤ c0) (h : laws_FnExactAssignTag.f k l0 a1 = some r) :
  Calls Try.prog 3 #[.slice A0 l0.length c0, .int .i64 a1] w fun e w' => e = .returned (.bool r) ∧ Below w.heap.size w w' := by
 have HR0 := Aside0.mk hr0
 have HC0 := Aside0.mk hc0
 clear hr0 hc0
 have HB := Aside0.mk (Below.refl w.heap.size w)
 have H : ((laws_szEntryS.f l0 1048576).bind fun t207 => (if t207 < 0 then (some true) else ((laws_toEntryS.f k l0).bind fun t208 => ((spec_AssignTag.f k t208 a1).bind fun bt211 => ((laws_toEntryS.f k l0).bind fun t216 => ((impl_AssignTag.f k t216 a1).bind fun bt219 => ((laws_eqEntryS.f k bt219.1 bt211.1).bind fun t224 => (if t224 = true then (if bt219.2.1 = bt211.2.1 then (laws_FnExactAssignTag.j0 k l0 a1 bt211.1 bt211.2.1 bt211.2.2 t216 bt219.1 bt219.2.1 bt219.2.2 (bt219.2.2 != bt211.2.2)) else (laws_FnExactAssignTag.j0 k l0 a1 bt211.1 bt211.2.1 bt211.2.2 t216 bt219.1 bt219.2.1 bt219.2.2 true)) else (laws_FnExactAssignTag.j0 k l0 a1 bt211.1 bt211.2.1 bt211.2.2 t216 bt219.1 bt219.2.1 bt219.2.2 true))))))))) = some r := h
 clear h
 obtain ⟨t207, A3, H⟩ := bindS H
 by_cases c4 : t207 < 0
 ·rw [if_pos c4] at H
  have c4b0 : decide (t207 < 0) = true := decide_eq_true c4
  clear c4
  obtain rfl := Option.some.inj H
  go_enter Try.func3, Try.ntmps3
  go_wp2_with (first | ((with_reducible refine gate_callee (f := 5) rfl ?_); refine goesL_ (some 21) rfl rfl Try.func5 (by kernel_rfl) rfl #[.slice A0 l0.length c0, .int .i64 1048576] rfl zG ?_; (with_reducible refine (laws_szEntryS.calls _ _ l0 1048576 t207 _ ?side1 ?side2 A3.out).mono ?_); (case side1 => exact cT HR0); (case side2 => exact HC0.out); rintro e w' ⟨rfl, ⟨nd, rfl⟩⟩; refine ⟨_, rfl, ?_⟩))
  go_ret
  exact ⟨zE, zB HB⟩
 ·rw [if_neg c4] at H
  have c4b0 : decide (t207 < 0) = false := decide_eq_false c4
  clear c4
  obtain ⟨t208, A5, H⟩ := bindS H
  replace H := Option.bind_eq_some_iff.mp H
  obtain ⟨⟨t211, t212, t213⟩, A60, H⟩ := H
  replace H : ((laws_toEntryS.f k l0).bind fun t216 => ((impl_AssignTag.f k t216 a1).bind fun bt219 => ((laws_eqEntryS.f k bt219.1 t211).bind fun t224 => (if t224 = true then (if bt219.2.1 = t212 then (laws_FnExactAssignTag.j0 k l0 a1 t211 t212 t213 t216 bt219.1 bt219.2.1 bt219.2.2 (bt219.2.2 != t213)) else (laws_FnExactAssignTag.j0 k l0 a1 t211 t212 t213 t216 bt219.1 bt219.2.1 bt219.2.2 true)) else (laws_FnExactAssignTag.j0 k l0 a1 t211 t212 t213 t216 bt219.1 bt219.2.1 bt219.2.2 true))))) = some r := H
  have A6 := Aside0.mk A60
  clear A60
  obtain ⟨t216, A7, H⟩ := bindS H
  replace H := Option.bind_eq_some_iff.mp H
  obtain ⟨⟨t219, t220, t221⟩, A80, H⟩ := H
  replace H : ((laws_eqEntryS.f k t219 t211).bind fun t224 => (if t224 = true then (if t220 = t212 then (laws_FnExactAssignTag.j0 k l0 a1 t211 t212 t213 t216 t219 t220 t221 (t221 != t213)) else (laws_FnExactAssignTag.j0 k l0 a1 t211 t212 t213 t216 t219 t220 t221 true)) else (laws_FnExactAssignTag.j0 k l0 a1 t211 t212 t213 t216 t219 t220 t221 true))) = some r := H
  have A8 := Aside0.mk A80
  clear A80
  have HC9 := Aside0.mk H
  clear H
  go_enter Try.func3, Try.ntmps3
  go_upto_region 8 with (first | ((with_reducible refine gate_callee (f := 5) rfl ?_); refine goesL_ (some 21) rfl rfl Try.func5 (by kernel_rfl) rfl #[.slice A0 l0.length c0, .int .i64 1048576] rfl zG ?_; (with_reducible refine (laws_szEntryS.calls _ _ l0 1048576 t207 _ ?side1 ?side2 A3.out).mono ?_); (case side1 => exact cT HR0); (case side2 => exact HC0.out); rintro e w' ⟨rfl, ⟨nd, rfl⟩⟩; refine ⟨_, rfl, ?_⟩) | ((with_reducible refine gate_callee (f := 7) rfl ?_); refine goesL_ (some 26) rfl rfl Try.func7 (by kernel_rfl) rfl #[.slice A0 l0.length c0] rfl zG ?_; (with_reducible refine (laws_toEntryS.calls k _ _ l0 t208 _ ?side1 ?side2 A5.out).mono ?_); (case side1 => exact cT HR0); (case side2 => exact HC0.out); rintro e w10 ⟨v209, rfl, ho0, hb⟩; refine ⟨_, rfl, ?_⟩; have HO210 := Aside0.mk (Kd.R_lower ho0 (below_size (zB HB))); replace HB := bS HB hb; (try clear hb); (try clear ho0); obtain ⟨Ao11, co11, eo11⟩ := Kd.R_slice HO210.out; subst eo11) | ((with_reducible refine gate_callee (f := 6) rfl ?_); refine goesL_ (some 28) rfl rfl Try.func6 (by kernel_rfl) rfl #[.slice Ao11 t208.length co11, .int .i64 a1] rfl zG ?_; (with_reducible refine (spec_AssignTag.calls k _ _ t208 a1 t211 t212 t213 _ ?side1 ?side2 A6.out).mono ?_); (case side1 => repeat (first | exact (Kd.R_reads' HO210.out).2.2 | (with_reducible refine Kd.C_alloc ?_ _) | (with_reducible refine Kd.C_drewN ?_ _) | (with_reducible refine Kd.C_drew ?_))); (case side2 => exact (Kd.R_reads' HO210.out).2.1); rintro e w12 ⟨v214, rfl, ho0, hb⟩; refine ⟨_, rfl, ?_⟩; have HO215 := Aside0.mk (Kd.R_lower (Kd.R_new' ho0 (Kd.R_lt (zR HO210))) (below_size (zB HB))); replace HO210 := Aside0.mk (Kd.R_elder' (zR HO210) (Kd.R_base ho0) hb); replace HB := bS HB hb; (try clear hb); (try clear ho0)) | ((with_reducible refine gate_callee (f := 7) rfl ?_); refine goesL_ (some 33) rfl rfl Try.func7 (by kernel_rfl) rfl #[.slice A0 l0.length c0] rfl zG ?_; (with_reducible refine (laws_toEntryS.calls k _ _ l0 t216 _ ?side1 ?side2 A7.out).mono ?_); (case side1 => exact cS HR0 HB); (case side2 => exact HC0.out); rintro e w13 ⟨v217, rfl, ho0, hb⟩; refine ⟨_, rfl, ?_⟩; have HO218 := Aside0.mk (Kd.R_lower (Kd.R_new' (Kd.R_new' ho0 (Kd.R_lt (zR HO210))) (Kd.R_lt (zR HO215))) (below_size (zB HB))); replace HO210 := Aside0.mk (Kd.R_elder' (zR HO210) (Kd.R_base ho0) hb); replace HO215 := Aside0.mk (Kd.R_elder' (zR HO215) (Kd.R_base ho0) hb); replace HB := bS HB hb; (try clear hb); (try clear ho0); obtain ⟨Ao14, co14, eo14⟩ := Kd.R_slice HO218.out; subst eo14) | ((with_reducible refine gate_callee (f := 8) rfl ?_); refine goesL_ (some 37) rfl rfl Try.func8 (by kernel_rfl) rfl #[.slice Ao14 t216.length co14, .int .i64 a1] rfl zG ?_; (with_reducible refine (impl_AssignTag.calls k _ _ t216 a1 t219 t220 t221 _ ?side1 ?side2 A8.out).mono ?_); (case side1 => repeat (first | exact (Kd.R_reads' HO218.out).2.2 | (with_reducible refine Kd.C_alloc ?_ _) | (with_reducible refine Kd.C_drewN ?_ _) | (with_reducible refine Kd.C_drew ?_))); (case side2 => exact (Kd.R_reads' HO218.out).2.1); rintro e w15 ⟨v222, rfl, ho0, hb⟩; refine ⟨_, rfl, ?_⟩; have HO223 := Aside0.mk (Kd.R_lower (Kd.R_new' (Kd.R_new' (Kd.R_new' ho0 (Kd.R_lt (zR HO210))) (Kd.R_lt (zR HO215))) (Kd.R_lt (zR HO218))) (below_size (zB HB))); replace HO210 := Aside0.mk (Kd.R_elder' (zR HO210) (Kd.R_base ho0) hb); replace HO215 := Aside0.mk (Kd.R_elder' (zR HO215) (Kd.R_base ho0) hb); replace HO218 := Aside0.mk (Kd.R_elder' (zR HO218) (Kd.R_base ho0) hb); replace HB := bS HB hb; (try clear hb); (try clear ho0)))
  (try simp only [Act.put, List.setIfInBounds_toArray, List.set_cons_zero, List.set_cons_succ])
  go_cut [54] (fun v54 wc => ∃ (kq : Nat) (x54_8 : Bool), v54 = .bool x54_8 ∧ Aside0 (laws_FnExactAssignTag.j0 kq l0 a1 t211 t212 t213 t216 t219 t220 t221 x54_8 = some r) ∧ Aside0 (kq ≤ k) ∧ Aside0 (Kd.R k43 43 wc w.heap.size (fun k_ => some k_ ≠ ((.slice Ao14 t216.length co14) : Value).ownBlock ∧ some k_ ≠ (v222 : Value).ownBlock) v214 t211) ∧ Aside0 (Kd.R k43 43 wc w.heap.size (fun k_ => some k_ ≠ (v214 : Value).ownBlock ∧ some k_ ≠ (v222 : Value).ownBlock) (.slice Ao14 t216.length co14) t216) ∧ Aside0 (Kd.R k43 43 wc w.heap.size (fun k_ => some k_ ≠ (v214 : Value).ownBlock ∧ some k_ ≠ ((.slice Ao14 t216.length co14) : Value).ownBlock) v222 t219) ∧ Aside0 (Below w.heap.size w wc))
  case first =>
   have H := HC9.out
   clear HC9
   obtain ⟨t224, A16, H⟩ := bindS H
   by_cases c17 : t224 = true
   ·subst c17
    have H1 : (if t220 = t212 then (laws_FnExactAssignTag.j0 k l0 a1 t211 t212 t213 t216 t219 t220 t221 (t221 != t213)) else (laws_FnExactAssignTag.j0 k l0 a1 t211 t212 t213 t216 t219 t220 t221 true)) = some r := by rw [if_pos rfl] at H; exact H
    clear H
    have H := H1
    clear H1
    by_cases c18 : t220 = t212
    ·rw [if_pos c18] at H
     have c18b0 : (t220 == t212) = true := beq_iff_eq.mpr c18
     have c18b1 : (t220 != t212) = false := bne_eq_false_iff_eq.mpr c18
     clear c18
     (first | rw [c18b0] | (simp only [i64_w, i32_w]; rw [c18b0]) | skip)
     have H' := Aside0.mk H
     clear H
     obtain ⟨Ao19, co19, eo19⟩ := Kd.R_slice HO223.out
     subst eo19
     obtain ⟨Ao20, co20, eo20⟩ := Kd.R_slice HO215.out
     subst eo20
     go_wp2_with (first | ((with_reducible refine gate_callee (f := 9) rfl ?_); refine goesL_ (some 43) rfl rfl Try.func9 (by kernel_rfl) rfl #[.slice Ao19 t219.length co19, .slice Ao20 t211.length co20] rfl zG ?_; (with_reducible refine (laws_eqEntryS.calls k _ _ t219 _ _ t211 true _ ?side1 ?side2 ?side3 ?side4 A16.out).mono ?_); (case side1 => repeat (first | exact (Kd.R_reads' HO223.out).2.2 | (with_reducible refine Kd.C_alloc ?_ _) | (with_reducible refine Kd.C_drewN ?_ _) | (with_reducible refine Kd.C_drew ?_))); (case side2 => exact (Kd.R_reads' HO223.out).2.1); (case side3 => repeat (first | exact (Kd.R_reads' HO215.out).2.2 | (with_reducible refine Kd.C_alloc ?_ _) | (with_reducible refine Kd.C_drewN ?_ _) | (with_reducible refine Kd.C_drew ?_))); (case side4 => exact (Kd.R_reads' HO215.out).2.1); rintro e w21 ⟨rfl, hb⟩; refine ⟨_, rfl, ?_⟩; replace HO210 := Aside0.mk (Kd.R_below (zR HO210) hb); replace HO215 := Aside0.mk (Kd.R_below (zR HO215) hb); replace HO218 := Aside0.mk (Kd.R_below (zR HO218) hb); replace HO223 := Aside0.mk (Kd.R_below (zR HO223) hb); replace HB := bS HB hb; (try clear hb)))
     go_meet
     case rel => exact ⟨_, ((t221 != t213)), zF, H', ⟨by first | omega | exact Nat.le_refl _⟩, ⟨by (with_reducible repeat (first | apply Kd.R_alloc | apply Kd.R_drewN | apply Kd.R_drew)); exact Kd.R_mono HO215.out (fun _ hk => ⟨hk.1.2, hk.2⟩)⟩, ⟨by (with_reducible repeat (first | apply Kd.R_alloc | apply Kd.R_drewN | apply Kd.R_drew)); exact Kd.R_mono HO218.out (fun _ hk => ⟨hk.1.2, hk.2⟩)⟩, ⟨by (with_reducible repeat (first | apply Kd.R_alloc | apply Kd.R_drewN | apply Kd.R_drew)); exact Kd.R_mono HO223.out (fun _ hk => ⟨hk.1.2, hk.2⟩)⟩, ⟨zB HB⟩⟩
    ·rw [if_neg c18] at H
     have c18b0 : (t220 == t212) = false := beq_eq_false_iff_ne.mpr c18
     have c18b1 : (t220 != t212) = true := bne_iff_ne.mpr c18
     (first | rw [c18b0] | (simp only [i64_w, i32_w]; rw [c18b0]) | skip)
     have H' := Aside0.mk H
     clear H
     obtain ⟨Ao22, co22, eo22⟩ := Kd.R_slice HO223.out
     subst eo22
     obtain ⟨Ao23, co23, eo23⟩ := Kd.R_slice HO215.out
     subst eo23
     go_wp2_with (first | ((with_reducible refine gate_callee (f := 9) rfl ?_); refine goesL_ (some 43) rfl rfl Try.func9 (by kernel_rfl) rfl #[.slice Ao22 t219.length co22, .slice Ao23 t211.length co23] rfl zG ?_; (with_reducible refine (laws_eqEntryS.calls k _ _ t219 _ _ t211 true _ ?side1 ?side2 ?side3 ?side4 A16.out).mono ?_); (case side1 => repeat (first | exact (Kd.R_reads' HO223.out).2.2 | (with_reducible refine Kd.C_alloc ?_ _) | (with_reducible refine Kd.C_drewN ?_ _) | (with_reducible refine Kd.C_drew ?_))); (case side2 => exact (Kd.R_reads' HO223.out).2.1); (case side3 => repeat (first | exact (Kd.R_reads' HO215.out).2.2 | (with_reducible refine Kd.C_alloc ?_ _) | (with_reducible refine Kd.C_drewN ?_ _) | (with_reducible refine Kd.C_drew ?_))); (case side4 => exact (Kd.R_reads' HO215.out).2.1); rintro e w24 ⟨rfl, hb⟩; refine ⟨_, rfl, ?_⟩; replace HO210 := Aside0.mk (Kd.R_below (zR HO210) hb); replace HO215 := Aside0.mk (Kd.R_below (zR HO215) hb); replace HO218 := Aside0.mk (Kd.R_below (zR HO218) hb); replace HO223 := Aside0.mk (Kd.R_below (zR HO223) hb); replace HB := bS HB hb; (try clear hb)))
     go_meet
     case rel => exact ⟨_, (true), zF, H', ⟨by first | omega | exact Nat.le_refl _⟩, ⟨by (with_reducible repeat (first | apply Kd.R_alloc | apply Kd.R_drewN | apply Kd.R_drew)); exact Kd.R_mono HO215.out (fun _ hk => ⟨hk.1.2, hk.2⟩)⟩, ⟨by (with_reducible repeat (first | apply Kd.R_alloc | apply Kd.R_drewN | apply Kd.R_drew)); exact Kd.R_mono HO218.out (fun _ hk => ⟨hk.1.2, hk.2⟩)⟩, ⟨by (with_reducible repeat (first | apply Kd.R_alloc | apply Kd.R_drewN | apply Kd.R_drew)); exact Kd.R_mono HO223.out (fun _ hk => ⟨hk.1.2, hk.2⟩)⟩, ⟨zB HB⟩⟩
   ·replace c17 := Bool.eq_false_iff.mpr c17
    subst c17
    have H1 : (laws_FnExactAssignTag.j0 k l0 a1 t211 t212 t213 t216 t219 t220 t221 true) = some r := by rw [if_neg (show ¬ (false = true) by decide)] at H; exact H
    clear H
    have H := H1
    clear H1
    have H' := Aside0.mk H
    clear H
    obtain ⟨Ao25, co25, eo25⟩ := Kd.R_slice HO223.out
    subst eo25
    obtain ⟨Ao26, co26, eo26⟩ := Kd.R_slice HO215.out
    subst eo26
    go_wp2_with (first | ((with_reducible refine gate_callee (f := 9) rfl ?_); refine goesL_ (some 43) rfl rfl Try.func9 (by kernel_rfl) rfl #[.slice Ao25 t219.length co25, .slice Ao26 t211.length co26] rfl zG ?_; (with_reducible refine (laws_eqEntryS.calls k _ _ t219 _ _ t211 false _ ?side1 ?side2 ?side3 ?side4 A16.out).mono ?_); (case side1 => repeat (first | exact (Kd.R_reads' HO223.out).2.2 | (with_reducible refine Kd.C_alloc ?_ _) | (with_reducible refine Kd.C_drewN ?_ _) | (with_reducible refine Kd.C_drew ?_))); (case side2 => exact (Kd.R_reads' HO223.out).2.1); (case side3 => repeat (first | exact (Kd.R_reads' HO215.out).2.2 | (with_reducible refine Kd.C_alloc ?_ _) | (with_reducible refine Kd.C_drewN ?_ _) | (with_reducible refine Kd.C_drew ?_))); (case side4 => exact (Kd.R_reads' HO215.out).2.1); rintro e w27 ⟨rfl, hb⟩; refine ⟨_, rfl, ?_⟩; replace HO210 := Aside0.mk (Kd.R_below (zR HO210) hb); replace HO215 := Aside0.mk (Kd.R_below (zR HO215) hb); replace HO218 := Aside0.mk (Kd.R_below (zR HO218) hb); replace HO223 := Aside0.mk (Kd.R_below (zR HO223) hb); replace HB := bS HB hb; (try clear hb)))
    go_meet
    case rel => exact ⟨_, (true), zF, H', ⟨by first | omega | exact Nat.le_refl _⟩, ⟨by (with_reducible repeat (first | apply Kd.R_alloc | apply Kd.R_drewN | apply Kd.R_drew)); exact Kd.R_mono HO215.out (fun _ hk => ⟨hk.1.2, hk.2⟩)⟩, ⟨by (with_reducible repeat (first | apply Kd.R_alloc | apply Kd.R_drewN | apply Kd.R_drew)); exact Kd.R_mono HO218.out (fun _ hk => ⟨hk.1.2, hk.2⟩)⟩, ⟨by (with_reducible repeat (first | apply Kd.R_alloc | apply Kd.R_drewN | apply Kd.R_drew)); exact Kd.R_mono HO223.out (fun _ hk => ⟨hk.1.2, hk.2⟩)⟩, ⟨zB HB⟩⟩
  case rest =>
   clear HC9
   try clear c1
   try clear p2
   try clear c3
   try clear c4
   try clear c4b0
   try clear c5
   try clear c6
   try clear c7
   try clear c8
   try clear c9
   try clear c17
   try clear c18
   try clear c18b0
   try clear c18b1
   obtain ⟨kq, x54_8, rfl, HA, HJ8, HO_6, HO_9, HO_10, HB⟩ := hcut
   cases kq with
   | zero => exact absurd HA.out (by simp [laws_FnExactAssignTag.j0])
   | succ kj8 =>
    have H := HA.out
    clear HA
    simp only [laws_FnExactAssignTag.j0] at H
    by_cases c28 : x54_8 = true
    ·subst c28
     have H1 : (some false) = some r := by rw [if_pos rfl] at H; exact H
     clear H
     have H := H1
     clear H1
     obtain rfl := Option.some.inj H
     go_wp2
     go_ret
     exact ⟨zE, zB HB⟩
    ·replace c28 := Bool.eq_false_iff.mpr c28
     subst c28
     have H1 : ((laws_toEntryS.f kj8 l0).bind fun t225 => ((laws_eqEntryS.f kj8 t216 t225).bind fun t228 => (if t228 = true then ((laws_markEntryS.f kj8 t216 1).bind fun bt229 => (if bt229.1 < 0 then (laws_FnExactAssignTag.j1 kj8 l0 a1 t211 t212 t213 t219 true) else ((laws_eqEntryS.f kj8 t219 t211).bind fun t231 => (if t231 = true then (if t220 = t212 then (laws_FnExactAssignTag.j1 kj8 l0 a1 t211 t212 t213 t219 (t221 != t213)) else (laws_FnExactAssignTag.j1 kj8 l0 a1 t211 t212 t213 t219 true)) else (laws_FnExactAssignTag.j1 kj8 l0 a1 t211 t212 t213 t219 true))))) else (some false)))) = some r := by rw [if_neg (show ¬ (false = true) by decide)] at H; exact H
     clear H
     have H := H1
     clear H1
     obtain ⟨t225, A29, H⟩ := bindS H
     obtain ⟨t228, A30, H⟩ := bindS H
     by_cases c31 : t228 = true
     ·subst c31
      have H1 : ((laws_markEntryS.f kj8 t216 1).bind fun bt229 => (if bt229.1 < 0 then (laws_FnExactAssignTag.j1 kj8 l0 a1 t211 t212 t213 t219 true) else ((laws_eqEntryS.f kj8 t219 t211).bind fun t231 => (if t231 = true then (if t220 = t212 then (laws_FnExactAssignTag.j1 kj8 l0 a1 t211 t212 t213 t219 (t221 != t213)) else (laws_FnExactAssignTag.j1 kj8 l0 a1 t211 t212 t213 t219 true)) else (laws_FnExactAssignTag.j1 kj8 l0 a1 t211 t212 t213 t219 true))))) = some r := by rw [if_pos rfl] at H; exact H
      clear H
      have H := H1
      clear H1
      replace H := Option.bind_eq_some_iff.mp H
      obtain ⟨⟨t229, t230⟩, A320, H⟩ := H
      replace H : (if t229 < 0 then (laws_FnExactAssignTag.j1 kj8 l0 a1 t211 t212 t213 t219 true) else ((laws_eqEntryS.f kj8 t219 t211).bind fun t231 => (if t231 = true then (if t220 = t212 then (laws_FnExactAssignTag.j1 kj8 l0 a1 t211 t212 t213 t219 (t221 != t213)) else (laws_FnExactAssignTag.j1 kj8 l0 a1 t211 t212 t213 t219 true)) else (laws_FnExactAssignTag.j1 kj8 l0 a1 t211 t212 t213 t219 true)))) = some r := H
      have A32 := Aside0.mk A320
      clear A320
      have HC33 := Aside0.mk H
      clear H
      go_upto_region 14 with (first | ((with_reducible refine gate_callee (f := 7) rfl ?_); refine goesL_ (some 57) rfl rfl Try.func7 (by kernel_rfl) rfl #[.slice A0 l0.length c0] rfl zG ?_; (with_reducible refine (laws_toEntryS.calls kj8 _ _ l0 t225 _ ?side1 ?side2 A29.out).mono ?_); (case side1 => exact cS HR0 HB); (case side2 => exact HC0.out); rintro e w34 ⟨v226, rfl, ho0, hb⟩; refine ⟨_, rfl, ?_⟩; have HO227 := Aside0.mk (Kd.R_lower (Kd.R_new' (Kd.R_new' (Kd.R_new' ho0 (Kd.R_lt (zR HO_6))) (Kd.R_lt (zR HO_9))) (Kd.R_lt (zR HO_10))) (below_size (zB HB))); replace HO_6 := Aside0.mk (Kd.R_elder' (zR HO_6) (Kd.R_base ho0) hb); replace HO_9 := Aside0.mk (Kd.R_elder' (zR HO_9) (Kd.R_base ho0) hb); replace HO_10 := Aside0.mk (Kd.R_elder' (zR HO_10) (Kd.R_base ho0) hb); replace HB := bS HB hb; (try clear hb); (try clear ho0); obtain ⟨Ao35, co35, eo35⟩ := Kd.R_slice HO227.out; subst eo35) | ((with_reducible refine gate_callee (f := 9) rfl ?_); refine goesL_ (some 58) rfl rfl Try.func9 (by kernel_rfl) rfl #[.slice Ao14 t216.length co14, .slice Ao35 t225.length co35] rfl zG ?_; (with_reducible refine (laws_eqEntryS.calls kj8 _ _ t216 _ _ t225 true _ ?side1 ?side2 ?side3 ?side4 A30.out).mono ?_); (case side1 => repeat (first | exact (Kd.R_reads' HO_9.out).2.2 | (with_reducible refine Kd.C_alloc ?_ _) | (with_reducible refine Kd.C_drewN ?_ _) | (with_reducible refine Kd.C_drew ?_))); (case side2 => exact (Kd.R_reads' HO_9.out).2.1); (case side3 => repeat (first | exact (Kd.R_reads' HO227.out).2.2 | (with_reducible refine Kd.C_alloc ?_ _) | (with_reducible refine Kd.C_drewN ?_ _) | (with_reducible refine Kd.C_drew ?_))); (case side4 => exact (Kd.R_reads' HO227.out).2.1); rintro e w36 ⟨rfl, hb⟩; refine ⟨_, rfl, ?_⟩; replace HO_6 := Aside0.mk (Kd.R_below (zR HO_6) hb); replace HO_9 := Aside0.mk (Kd.R_below (zR HO_9) hb); replace HO_10 := Aside0.mk (Kd.R_below (zR HO_10) hb); replace HO227 := Aside0.mk (Kd.R_below (zR HO227) hb); replace HB := bS HB hb; (try clear hb)) | ((with_reducible refine gate_callee (f := 10) rfl ?_); refine goesL_ (some 62) rfl rfl Try.func10 (by kernel_rfl) rfl #[.slice Ao14 t216.length co14, .int .i64 1] rfl zG ?_; (with_reducible refine (laws_markEntryS.calls kj8 (fun k_ => some k_ = (.slice Ao14 t216.length co14 : Value).ownBlock) (.slice Ao14 t216.length co14) t216 1 t229 t230 w _ ?side1 ?side2 A32.out).mono ?_); (case side1 => repeat (first | (with_reducible first | exact HB.out | apply below_alloc | apply pw_below_drewN | apply below_drew1) | exact HB.out)); (case side2 => exact Kd.R_tight rfl HO_9.out); rintro e w37 ⟨rfl, hy0, hb, hkp⟩; refine ⟨_, rfl, ?_⟩; replace HO_6 := Aside0.mk (Kd.R_mono (ok' := fun k_ => some k_ ≠ (.slice Ao14 t216.length co14 : Value).ownBlock ∧ some k_ ≠ (v222 : Value).ownBlock ∧ some k_ ≠ (.slice Ao35 t225.length co35 : Value).ownBlock) (Kd.R_keptB (HO_6.out) hkp (fun k_ hk_ hs_ => ne_pick hk_ hs_)) (fun k_ hk_ => ⟨(pick hk_), (pick hk_), (pick hk_)⟩)); replace HO_9 := Aside0.mk (Kd.R_reok rfl hy0 (fun k_ e_ => HO_9.out.1 k_ e_)); replace HO_10 := Aside0.mk (Kd.R_mono (ok' := fun k_ => some k_ ≠ (v214 : Value).ownBlock ∧ some k_ ≠ (.slice Ao14 t216.length co14 : Value).ownBlock ∧ some k_ ≠ (.slice Ao35 t225.length co35 : Value).ownBlock) (Kd.R_keptB (HO_10.out) hkp (fun k_ hk_ hs_ => ne_pick hk_ hs_)) (fun k_ hk_ => ⟨(pick hk_), (pick hk_), (pick hk_)⟩)); replace HO227 := Aside0.mk (Kd.R_mono (ok' := fun k_ => some k_ ≠ (v214 : Value).ownBlock ∧ some k_ ≠ (.slice Ao14 t216.length co14 : Value).ownBlock ∧ some k_ ≠ (v222 : Value).ownBlock) (Kd.R_keptB (HO227.out) hkp (fun k_ hk_ hs_ => ne_pick hk_ hs_)) (fun k_ hk_ => ⟨(pick hk_), (pick hk_), (pick hk_)⟩)); replace HB := Aside0.mk (hb); (try clear hb); (try clear hkp); (try clear hy0)))
      (try simp only [Act.put, List.setIfInBounds_toArray, List.set_cons_zero, List.set_cons_succ])
      go_cut [80] (fun v80 wc => ∃ (kq : Nat) (x80_32 : Bool), v80 = .bool x80_32 ∧ Aside0 (laws_FnExactAssignTag.j1 kq l0 a1 t211 t212 t213 t219 x80_32 = some r) ∧ Aside0 (kq ≤ kj8) ∧ Aside0 (Kd.R k43 43 wc w.heap.size (fun k_ => some k_ ≠ (v222 : Value).ownBlock) v214 t211) ∧ Aside0 (Kd.R k43 43 wc w.heap.size (fun k_ => some k_ ≠ (v214 : Value).ownBlock) v222 t219) ∧ Aside0 (Below w.heap.size w wc))
      case first =>
       have H := HC33.out
       clear HC33
       by_cases c38 : t229 < 0
       ·rw [if_pos c38] at H
        have c38b0 : decide (t229 < 0) = true := decide_eq_true c38
        clear c38
        (first | rw [c38b0] | (simp only [i64_w, i32_w]; rw [c38b0]) | skip)
        have H' := Aside0.mk H
        clear H
        go_wp2
        go_meet
        case rel => exact ⟨_, (true), zF, H', ⟨by have := HJ8.out; first | omega | exact Nat.le_refl _⟩, ⟨by (with_reducible repeat (first | apply Kd.R_alloc | apply Kd.R_drewN | apply Kd.R_drew)); exact Kd.R_mono HO_6.out (fun _ hk => hk.2.1)⟩, ⟨by (with_reducible repeat (first | apply Kd.R_alloc | apply Kd.R_drewN | apply Kd.R_drew)); exact Kd.R_mono HO_10.out (fun _ hk => hk.1)⟩, ⟨zB HB⟩⟩
       ·rw [if_neg c38] at H
        have c38b0 : decide (t229 < 0) = false := decide_eq_false c38
        clear c38
        (first | rw [c38b0] | (simp only [i64_w, i32_w]; rw [c38b0]) | skip)
        obtain ⟨t231, A39, H⟩ := bindS H
        by_cases c40 : t231 = true
        ·subst c40
         have H1 : (if t220 = t212 then (laws_FnExactAssignTag.j1 kj8 l0 a1 t211 t212 t213 t219 (t221 != t213)) else (laws_FnExactAssignTag.j1 kj8 l0 a1 t211 t212 t213 t219 true)) = some r := by rw [if_pos rfl] at H; exact H
         clear H
         have H := H1
         clear H1
         by_cases c41 : t220 = t212
         ·rw [if_pos c41] at H
          have c41b0 : (t220 == t212) = true := beq_iff_eq.mpr c41
          have c41b1 : (t220 != t212) = false := bne_eq_false_iff_eq.mpr c41
          clear c41
          have H' := Aside0.mk H
          clear H
          obtain ⟨Ao42, co42, eo42⟩ := Kd.R_slice HO_10.out
          subst eo42
          obtain ⟨Ao43, co43, eo43⟩ := Kd.R_slice HO_6.out
          subst eo43
          go_wp2_with (first | (go_at_call 9; (with_reducible refine (laws_eqEntryS.calls kj8 _ _ t219 _ _ t211 true _ ?side1 ?side2 ?side3 ?side4 A39.out).mono ?_); (case side1 => repeat (first | exact (Kd.R_reads' HO_10.out).2.2 | (with_reducible refine Kd.C_alloc ?_ _) | (with_reducible refine Kd.C_drewN ?_ _) | (with_reducible refine Kd.C_drew ?_))); (case side2 => exact (Kd.R_reads' HO_10.out).2.1); (case side3 => repeat (first | exact (Kd.R_reads' HO_6.out).2.2 | (with_reducible refine Kd.C_alloc ?_ _) | (with_reducible refine Kd.C_drewN ?_ _) | (with_reducible refine Kd.C_drew ?_))); (case side4 => exact (Kd.R_reads' HO_6.out).2.1); rintro e w44 ⟨rfl, hb⟩; replace HO_6 := Aside0.mk (Kd.R_below (zR HO_6) hb); replace HO_9 := Aside0.mk (Kd.R_below (zR HO_9) hb); replace HO_10 := Aside0.mk (Kd.R_below (zR HO_10) hb); replace HO227 := Aside0.mk (Kd.R_below (zR HO227) hb); replace HB := bS HB hb; (try clear hb)))
          go_meet
          case rel => exact ⟨_, ((t221 != t213)), zF, H', ⟨by have := HJ8.out; first | omega | exact Nat.le_refl _⟩, ⟨by (with_reducible repeat (first | apply Kd.R_alloc | apply Kd.R_drewN | apply Kd.R_drew)); exact Kd.R_mono HO_6.out (fun _ hk => hk.2.1)⟩, ⟨by (with_reducible repeat (first | apply Kd.R_alloc | apply Kd.R_drewN | apply Kd.R_drew)); exact Kd.R_mono HO_10.out (fun _ hk => hk.1)⟩, ⟨zB HB⟩⟩
         ·rw [if_neg c41] at H
          have c41b0 : (t220 == t212) = false := beq_eq_false_iff_ne.mpr c41
          have c41b1 : (t220 != t212) = true := bne_iff_ne.mpr c41
          have H' := Aside0.mk H
          clear H
          obtain ⟨Ao45, co45, eo45⟩ := Kd.R_slice HO_10.out
          subst eo45
          obtain ⟨Ao46, co46, eo46⟩ := Kd.R_slice HO_6.out
          subst eo46
          go_wp2_with (first | (go_at_call 9; (with_reducible refine (laws_eqEntryS.calls kj8 _ _ t219 _ _ t211 true _ ?side1 ?side2 ?side3 ?side4 A39.out).mono ?_); (case side1 => repeat (first | exact (Kd.R_reads' HO_10.out).2.2 | (with_reducible refine Kd.C_alloc ?_ _) | (with_reducible refine Kd.C_drewN ?_ _) | (with_reducible refine Kd.C_drew ?_))); (case side2 => exact (Kd.R_reads' HO_10.out).2.1); (case side3 => repeat (first | exact (Kd.R_reads' HO_6.out).2.2 | (with_reducible refine Kd.C_alloc ?_ _) | (with_reducible refine Kd.C_drewN ?_ _) | (with_reducible refine Kd.C_drew ?_))); (case side4 => exact (Kd.R_reads' HO_6.out).2.1); rintro e w47 ⟨rfl, hb⟩; replace HO_6 := Aside0.mk (Kd.R_below (zR HO_6) hb); replace HO_9 := Aside0.mk (Kd.R_below (zR HO_9) hb); replace HO_10 := Aside0.mk (Kd.R_below (zR HO_10) hb); replace HO227 := Aside0.mk (Kd.R_below (zR HO227) hb); replace HB := bS HB hb; (try clear hb)))
          go_meet
          case rel => exact ⟨_, (true), zF, H', ⟨by have := HJ8.out; first | omega | exact Nat.le_refl _⟩, ⟨by (with_reducible repeat (first | apply Kd.R_alloc | apply Kd.R_drewN | apply Kd.R_drew)); exact Kd.R_mono HO_6.out (fun _ hk => hk.2.1)⟩, ⟨by (with_reducible repeat (first | apply Kd.R_alloc | apply Kd.R_drewN | apply Kd.R_drew)); exact Kd.R_mono HO_10.out (fun _ hk => hk.1)⟩, ⟨zB HB⟩⟩
        ·replace c40 := Bool.eq_false_iff.mpr c40
         subst c40
         have H1 : (laws_FnExactAssignTag.j1 kj8 l0 a1 t211 t212 t213 t219 true) = some r := by rw [if_neg (show ¬ (false = true) by decide)] at H; exact H
         clear H
         have H := H1
         clear H1
         have H' := Aside0.mk H
         clear H
         obtain ⟨Ao48, co48, eo48⟩ := Kd.R_slice HO_10.out
         subst eo48
         obtain ⟨Ao49, co49, eo49⟩ := Kd.R_slice HO_6.out
         subst eo49
         go_wp2_with (first | (go_at_call 9; (with_reducible refine (laws_eqEntryS.calls kj8 _ _ t219 _ _ t211 false _ ?side1 ?side2 ?side3 ?side4 A39.out).mono ?_); (case side1 => repeat (first | exact (Kd.R_reads' HO_10.out).2.2 | (with_reducible refine Kd.C_alloc ?_ _) | (with_reducible refine Kd.C_drewN ?_ _) | (with_reducible refine Kd.C_drew ?_))); (case side2 => exact (Kd.R_reads' HO_10.out).2.1); (case side3 => repeat (first | exact (Kd.R_reads' HO_6.out).2.2 | (with_reducible refine Kd.C_alloc ?_ _) | (with_reducible refine Kd.C_drewN ?_ _) | (with_reducible refine Kd.C_drew ?_))); (case side4 => exact (Kd.R_reads' HO_6.out).2.1); rintro e w50 ⟨rfl, hb⟩; replace HO_6 := Aside0.mk (Kd.R_below (zR HO_6) hb); replace HO_9 := Aside0.mk (Kd.R_below (zR HO_9) hb); replace HO_10 := Aside0.mk (Kd.R_below (zR HO_10) hb); replace HO227 := Aside0.mk (Kd.R_below (zR HO227) hb); replace HB := bS HB hb; (try clear hb)))
         go_meet
         case rel => exact ⟨_, (true), zF, H', ⟨by have := HJ8.out; first | omega | exact Nat.le_refl _⟩, ⟨by (with_reducible repeat (first | apply Kd.R_alloc | apply Kd.R_drewN | apply Kd.R_drew)); exact Kd.R_mono HO_6.out (fun _ hk => hk.2.1)⟩, ⟨by (with_reducible repeat (first | apply Kd.R_alloc | apply Kd.R_drewN | apply Kd.R_drew)); exact Kd.R_mono HO_10.out (fun _ hk => hk.1)⟩, ⟨zB HB⟩⟩
      case rest =>
       clear HC33
       try clear c1
       try clear c2
       try clear p2
       try clear c3
       try clear c4
       try clear c4b0
       try clear c5
       try clear c6
       try clear c7
       try clear c8
       try clear c9
       try clear c10
       try clear c17
       try clear c18
       try clear c18b0
       try clear c18b1
       try clear c28
       try clear c31
       try clear c38
       try clear c38b0
       try clear c40
       try clear c41
       try clear c41b0
       try clear c41b1
       try clear p2
       obtain ⟨kq, x80_32, rfl, HA, HJ32, HO_6, HO_10, HB⟩ := hcut
       cases kq with
       | zero => exact absurd HA.out (by simp [laws_FnExactAssignTag.j1])
       | succ kj32 =>
        have H := HA.out
        clear HA
        simp only [laws_FnExactAssignTag.j1] at H
        by_cases c51 : x80_32 = true
        ·subst c51
         have H1 : (some false) = some r := by rw [if_pos rfl] at H; exact H
         clear H
         have H := H1
         clear H1
         obtain rfl := Option.some.inj H
         go_wp2
         go_ret
         exact ⟨zE, zB HB⟩
        ·replace c51 := Bool.eq_false_iff.mpr c51
         subst c51
         have H1 : ((laws_markEntryS.f kj32 t219 1).bind fun bt232 => ((laws_heldEntryS.f kj32 bt232.2 1).bind fun t234 => (if t234 < 0 then (some false) else (if t234 = bt232.1 then ((laws_toEntryS.f kj32 l0).bind fun t235 => ((impl_AssignTag.f kj32 t235 a1).bind fun bt238 => ((laws_eqEntryS.f kj32 bt238.1 t211).bind fun t243 => (if t243 = true then (if bt238.2.1 = t212 then (laws_FnExactAssignTag.j2 kj32 bt232.2 bt232.1 (bt238.2.2 != t213)) else (laws_FnExactAssignTag.j2 kj32 bt232.2 bt232.1 true)) else (laws_FnExactAssignTag.j2 kj32 bt232.2 bt232.1 true))))) else (some false))))) = some r := by rw [if_neg (show ¬ (false = true) by decide)] at H; exact H
         clear H
         have H := H1
         clear H1
         replace H := Option.bind_eq_some_iff.mp H
         obtain ⟨⟨t232, t233⟩, A520, H⟩ := H
         replace H : ((laws_heldEntryS.f kj32 t233 1).bind fun t234 => (if t234 < 0 then (some false) else (if t234 = t232 then ((laws_toEntryS.f kj32 l0).bind fun t235 => ((impl_AssignTag.f kj32 t235 a1).bind fun bt238 => ((laws_eqEntryS.f kj32 bt238.1 t211).bind fun t243 => (if t243 = true then (if bt238.2.1 = t212 then (laws_FnExactAssignTag.j2 kj32 t233 t232 (bt238.2.2 != t213)) else (laws_FnExactAssignTag.j2 kj32 t233 t232 true)) else (laws_FnExactAssignTag.j2 kj32 t233 t232 true))))) else (some false)))) = some r := H
         have A52 := Aside0.mk A520
         clear A520
         obtain ⟨t234, A53, H⟩ := bindS H
         by_cases c54 : t234 < 0
         ·rw [if_pos c54] at H
          have c54b0 : decide (t234 < 0) = true := decide_eq_true c54
          clear c54
          obtain rfl := Option.some.inj H
          obtain ⟨Ao55, co55, eo55⟩ := Kd.R_slice HO_10.out
          subst eo55
          go_wp2_with (first | ((with_reducible refine gate_callee (f := 10) rfl ?_); refine goesL_ (some 83) rfl rfl Try.func10 (by kernel_rfl) rfl #[.slice Ao55 t219.length co55, .int .i64 1] rfl zG ?_; (with_reducible refine (laws_markEntryS.calls kj32 (fun k_ => some k_ = (.slice Ao55 t219.length co55 : Value).ownBlock) (.slice Ao55 t219.length co55) t219 1 t232 t233 w _ ?side1 ?side2 A52.out).mono ?_); (case side1 => repeat (first | (with_reducible first | exact HB.out | apply below_alloc | apply pw_below_drewN | apply below_drew1) | exact HB.out)); (case side2 => exact Kd.R_tight rfl HO_10.out); rintro e w56 ⟨rfl, hy0, hb, hkp⟩; refine ⟨_, rfl, ?_⟩; replace HO_6 := Aside0.mk (Kd.R_mono (ok' := fun k_ => some k_ ≠ (.slice Ao55 t219.length co55 : Value).ownBlock) (Kd.R_keptB (HO_6.out) hkp (fun k_ hk_ hs_ => (hk_) hs_)) (fun k_ hk_ => (pick hk_))); replace HO_10 := Aside0.mk (Kd.R_reok rfl hy0 (fun k_ e_ => HO_10.out.1 k_ e_)); replace HB := Aside0.mk (hb); (try clear hb); (try clear hkp); (try clear hy0)) | ((with_reducible refine gate_callee (f := 11) rfl ?_); refine goesL_ (some 86) rfl rfl Try.func11 (by kernel_rfl) rfl #[.slice Ao55 t233.length co55, .int .i64 1] rfl (by (try simp only [List.map_toArray, List.map_cons, List.map_nil]); first | done | (rw [show t233.length = t219.length from (Kd.R_reads' HO_10.out).1.symm] <;> rfl) | rfl | (simp only [List.length_drop, List.length_take]; rfl)) ?_; (with_reducible refine (laws_heldEntryS.calls kj32 _ _ t233 1 t234 _ ?side1 ?side2 A53.out).mono ?_); (case side1 => repeat (first | exact (Kd.R_reads' HO_10.out).2.2 | (with_reducible refine Kd.C_alloc ?_ _) | (with_reducible refine Kd.C_drewN ?_ _) | (with_reducible refine Kd.C_drew ?_))); (case side2 => rw [show t233.length = t219.length from (Kd.R_reads' HO_10.out).1.symm]; exact (Kd.R_reads' HO_10.out).2.1); rintro e w' ⟨rfl, ⟨nd, rfl⟩⟩; refine ⟨_, rfl, ?_⟩))
          go_ret
          exact ⟨zE, zB HB⟩
         ·rw [if_neg c54] at H
          have c54b0 : decide (t234 < 0) = false := decide_eq_false c54
          clear c54
          by_cases c57 : t234 = t232
          ·rw [if_pos c57] at H
           have c57b0 : (t234 == t232) = true := beq_iff_eq.mpr c57
           have c57b1 : (t234 != t232) = false := bne_eq_false_iff_eq.mpr c57
           clear c57
           obtain ⟨t235, A58, H⟩ := bindS H
           replace H := Option.bind_eq_some_iff.mp H
           obtain ⟨⟨t238, t239, t240⟩, A590, H⟩ := H
           replace H : ((laws_eqEntryS.f kj32 t238 t211).bind fun t243 => (if t243 = true then (if t239 = t212 then (laws_FnExactAssignTag.j2 kj32 t233 t232 (t240 != t213)) else (laws_FnExactAssignTag.j2 kj32 t233 t232 true)) else (laws_FnExactAssignTag.j2 kj32 t233 t232 true))) = some r := H
           have A59 := Aside0.mk A590
           clear A590
           have HC60 := Aside0.mk H
           clear H
           obtain ⟨Ao61, co61, eo61⟩ := Kd.R_slice HO_10.out
           subst eo61
           go_upto_region 25 with (first | ((with_reducible refine gate_callee (f := 10) rfl ?_); refine goesL_ (some 83) rfl rfl Try.func10 (by kernel_rfl) rfl #[.slice Ao61 t219.length co61, .int .i64 1] rfl zG ?_; (with_reducible refine (laws_markEntryS.calls kj32 (fun k_ => some k_ = (.slice Ao61 t219.length co61 : Value).ownBlock) (.slice Ao61 t219.length co61) t219 1 t232 t233 w _ ?side1 ?side2 A52.out).mono ?_); (case side1 => repeat (first | (with_reducible first | exact HB.out | apply below_alloc | apply pw_below_drewN | apply below_drew1) | exact HB.out)); (case side2 => exact Kd.R_tight rfl HO_10.out); rintro e w62 ⟨rfl, hy0, hb, hkp⟩; refine ⟨_, rfl, ?_⟩; replace HO_6 := Aside0.mk (Kd.R_mono (ok' := fun k_ => some k_ ≠ (.slice Ao61 t219.length co61 : Value).ownBlock) (Kd.R_keptB (HO_6.out) hkp (fun k_ hk_ hs_ => (hk_) hs_)) (fun k_ hk_ => (pick hk_))); replace HO_10 := Aside0.mk (Kd.R_reok rfl hy0 (fun k_ e_ => HO_10.out.1 k_ e_)); replace HB := Aside0.mk (hb); (try clear hb); (try clear hkp); (try clear hy0)) | ((with_reducible refine gate_callee (f := 11) rfl ?_); refine goesL_ (some 86) rfl rfl Try.func11 (by kernel_rfl) rfl #[.slice Ao61 t233.length co61, .int .i64 1] rfl (by (try simp only [List.map_toArray, List.map_cons, List.map_nil]); first | done | (rw [show t233.length = t219.length from (Kd.R_reads' HO_10.out).1.symm] <;> rfl) | rfl | (simp only [List.length_drop, List.length_take]; rfl)) ?_; (with_reducible refine (laws_heldEntryS.calls kj32 _ _ t233 1 t234 _ ?side1 ?side2 A53.out).mono ?_); (case side1 => repeat (first | exact (Kd.R_reads' HO_10.out).2.2 | (with_reducible refine Kd.C_alloc ?_ _) | (with_reducible refine Kd.C_drewN ?_ _) | (with_reducible refine Kd.C_drew ?_))); (case side2 => rw [show t233.length = t219.length from (Kd.R_reads' HO_10.out).1.symm]; exact (Kd.R_reads' HO_10.out).2.1); rintro e w' ⟨rfl, ⟨nd, rfl⟩⟩; refine ⟨_, rfl, ?_⟩) | ((with_reducible refine gate_callee (f := 7) rfl ?_); refine goesL_ (some 94) rfl rfl Try.func7 (by kernel_rfl) rfl #[.slice A0 l0.length c0] rfl zG ?_; (with_reducible refine (laws_toEntryS.calls kj32 _ _ l0 t235 _ ?side1 ?side2 A58.out).mono ?_); (case side1 => repeat (first | exact (Kd.C_below HR0.out (zB HB)) | (with_reducible refine Kd.C_alloc ?_ _) | (with_reducible refine Kd.C_drewN ?_ _) | (with_reducible refine Kd.C_drew ?_))); (case side2 => exact HC0.out); rintro e w63 ⟨v236, rfl, ho0, hb⟩; refine ⟨_, rfl, ?_⟩; have HO237 := Aside0.mk (Kd.R_lower (Kd.R_new' (Kd.R_new' ho0 (Kd.R_lt (zR HO_6))) (Kd.R_lt (zR HO_10))) (below_size (zB HB))); replace HO_6 := Aside0.mk (Kd.R_elder' (zR HO_6) (Kd.R_base ho0) hb); replace HO_10 := Aside0.mk (Kd.R_elder' (zR HO_10) (Kd.R_base ho0) hb); replace HB := bS HB hb; (try clear hb); (try clear ho0); obtain ⟨Ao64, co64, eo64⟩ := Kd.R_slice HO237.out; subst eo64) | ((with_reducible refine gate_callee (f := 8) rfl ?_); refine goesL_ (some 96) rfl rfl Try.func8 (by kernel_rfl) rfl #[.slice Ao64 t235.length co64, .int .i64 a1] rfl zG ?_; (with_reducible refine (impl_AssignTag.calls kj32 _ _ t235 a1 t238 t239 t240 _ ?side1 ?side2 A59.out).mono ?_); (case side1 => repeat (first | exact (Kd.R_reads' HO237.out).2.2 | (with_reducible refine Kd.C_alloc ?_ _) | (with_reducible refine Kd.C_drewN ?_ _) | (with_reducible refine Kd.C_drew ?_))); (case side2 => exact (Kd.R_reads' HO237.out).2.1); rintro e w65 ⟨v241, rfl, ho0, hb⟩; refine ⟨_, rfl, ?_⟩; have HO242 := Aside0.mk (Kd.R_lower (Kd.R_new' (Kd.R_new' (Kd.R_new' ho0 (Kd.R_lt (zR HO_6))) (Kd.R_lt (zR HO_10))) (Kd.R_lt (zR HO237))) (below_size (zB HB))); replace HO_6 := Aside0.mk (Kd.R_elder' (zR HO_6) (Kd.R_base ho0) hb); replace HO_10 := Aside0.mk (Kd.R_elder' (zR HO_10) (Kd.R_base ho0) hb); replace HO237 := Aside0.mk (Kd.R_elder' (zR HO237) (Kd.R_base ho0) hb); replace HB := bS HB hb; (try clear hb); (try clear ho0)))
           (try simp only [Act.put, List.setIfInBounds_toArray, List.set_cons_zero, List.set_cons_succ])
           go_cut [113] (fun v113 wc => ∃ (kq : Nat) (x113_59 : Bool), v113 = .bool x113_59 ∧ Aside0 (laws_FnExactAssignTag.j2 kq t233 t232 x113_59 = some r) ∧ Aside0 (kq ≤ kj32) ∧ Aside0 (Kd.R k43 43 wc w.heap.size (fun _ => True) (.slice Ao61 t219.length co61) t233) ∧ Aside0 (Below w.heap.size w wc))
           case first =>
            have H := HC60.out
            clear HC60
            obtain ⟨t243, A66, H⟩ := bindS H
            by_cases c67 : t243 = true
            ·subst c67
             have H1 : (if t239 = t212 then (laws_FnExactAssignTag.j2 kj32 t233 t232 (t240 != t213)) else (laws_FnExactAssignTag.j2 kj32 t233 t232 true)) = some r := by rw [if_pos rfl] at H; exact H
             clear H
             have H := H1
             clear H1
             by_cases c68 : t239 = t212
             ·rw [if_pos c68] at H
              have c68b0 : (t239 == t212) = true := beq_iff_eq.mpr c68
              have c68b1 : (t239 != t212) = false := bne_eq_false_iff_eq.mpr c68
              clear c68
              (first | rw [c68b0] | (simp only [i64_w, i32_w]; rw [c68b0]) | skip)
              have H' := Aside0.mk H
              clear H
              obtain ⟨Ao69, co69, eo69⟩ := Kd.R_slice HO242.out
              subst eo69
              obtain ⟨Ao70, co70, eo70⟩ := Kd.R_slice HO_6.out
              subst eo70
              go_wp2_with (first | ((with_reducible refine gate_callee (f := 9) rfl ?_); refine goesL_ (some 102) rfl rfl Try.func9 (by kernel_rfl) rfl #[.slice Ao69 t238.length co69, .slice Ao70 t211.length co70] rfl zG ?_; (with_reducible refine (laws_eqEntryS.calls kj32 _ _ t238 _ _ t211 true _ ?side1 ?side2 ?side3 ?side4 A66.out).mono ?_); (case side1 => repeat (first | exact (Kd.R_reads' HO242.out).2.2 | (with_reducible refine Kd.C_alloc ?_ _) | (with_reducible refine Kd.C_drewN ?_ _) | (with_reducible refine Kd.C_drew ?_))); (case side2 => exact (Kd.R_reads' HO242.out).2.1); (case side3 => repeat (first | exact (Kd.R_reads' HO_6.out).2.2 | (with_reducible refine Kd.C_alloc ?_ _) | (with_reducible refine Kd.C_drewN ?_ _) | (with_reducible refine Kd.C_drew ?_))); (case side4 => exact (Kd.R_reads' HO_6.out).2.1); rintro e w71 ⟨rfl, hb⟩; refine ⟨_, rfl, ?_⟩; replace HO_6 := Aside0.mk (Kd.R_below (zR HO_6) hb); replace HO_10 := Aside0.mk (Kd.R_below (zR HO_10) hb); replace HO237 := Aside0.mk (Kd.R_below (zR HO237) hb); replace HO242 := Aside0.mk (Kd.R_below (zR HO242) hb); replace HB := bS HB hb; (try clear hb)))
              go_meet
              case rel => exact ⟨_, ((t240 != t213)), zF, H', ⟨by have := HJ8.out; have := HJ32.out; first | omega | exact Nat.le_refl _⟩, ⟨by (with_reducible repeat (first | apply Kd.R_alloc | apply Kd.R_drewN | apply Kd.R_drew)); exact Kd.R_mono HO_10.out (fun _ hk => trivial)⟩, ⟨zB HB⟩⟩
             ·rw [if_neg c68] at H
              have c68b0 : (t239 == t212) = false := beq_eq_false_iff_ne.mpr c68
              have c68b1 : (t239 != t212) = true := bne_iff_ne.mpr c68
              (first | rw [c68b0] | (simp only [i64_w, i32_w]; rw [c68b0]) | skip)
              have H' := Aside0.mk H
              clear H
              obtain ⟨Ao72, co72, eo72⟩ := Kd.R_slice HO242.out
              subst eo72
              obtain ⟨Ao73, co73, eo73⟩ := Kd.R_slice HO_6.out
              subst eo73
              go_wp2_with (first | ((with_reducible refine gate_callee (f := 9) rfl ?_); refine goesL_ (some 102) rfl rfl Try.func9 (by kernel_rfl) rfl #[.slice Ao72 t238.length co72, .slice Ao73 t211.length co73] rfl zG ?_; (with_reducible refine (laws_eqEntryS.calls kj32 _ _ t238 _ _ t211 true _ ?side1 ?side2 ?side3 ?side4 A66.out).mono ?_); (case side1 => repeat (first | exact (Kd.R_reads' HO242.out).2.2 | (with_reducible refine Kd.C_alloc ?_ _) | (with_reducible refine Kd.C_drewN ?_ _) | (with_reducible refine Kd.C_drew ?_))); (case side2 => exact (Kd.R_reads' HO242.out).2.1); (case side3 => repeat (first | exact (Kd.R_reads' HO_6.out).2.2 | (with_reducible refine Kd.C_alloc ?_ _) | (with_reducible refine Kd.C_drewN ?_ _) | (with_reducible refine Kd.C_drew ?_))); (case side4 => exact (Kd.R_reads' HO_6.out).2.1); rintro e w74 ⟨rfl, hb⟩; refine ⟨_, rfl, ?_⟩; replace HO_6 := Aside0.mk (Kd.R_below (zR HO_6) hb); replace HO_10 := Aside0.mk (Kd.R_below (zR HO_10) hb); replace HO237 := Aside0.mk (Kd.R_below (zR HO237) hb); replace HO242 := Aside0.mk (Kd.R_below (zR HO242) hb); replace HB := bS HB hb; (try clear hb)))
              go_meet
              case rel => exact ⟨_, (true), zF, H', ⟨by have := HJ8.out; have := HJ32.out; first | omega | exact Nat.le_refl _⟩, ⟨by (with_reducible repeat (first | apply Kd.R_alloc | apply Kd.R_drewN | apply Kd.R_drew)); exact Kd.R_mono HO_10.out (fun _ hk => trivial)⟩, ⟨zB HB⟩⟩
            ·replace c67 := Bool.eq_false_iff.mpr c67
             subst c67
             have H1 : (laws_FnExactAssignTag.j2 kj32 t233 t232 true) = some r := by rw [if_neg (show ¬ (false = true) by decide)] at H; exact H
             clear H
             have H := H1
             clear H1
             have H' := Aside0.mk H
             clear H
             obtain ⟨Ao75, co75, eo75⟩ := Kd.R_slice HO242.out
             subst eo75
             obtain ⟨Ao76, co76, eo76⟩ := Kd.R_slice HO_6.out
             subst eo76
             go_wp2_with (first | ((with_reducible refine gate_callee (f := 9) rfl ?_); refine goesL_ (some 102) rfl rfl Try.func9 (by kernel_rfl) rfl #[.slice Ao75 t238.length co75, .slice Ao76 t211.length co76] rfl zG ?_; (with_reducible refine (laws_eqEntryS.calls kj32 _ _ t238 _ _ t211 false _ ?side1 ?side2 ?side3 ?side4 A66.out).mono ?_); (case side1 => repeat (first | exact (Kd.R_reads' HO242.out).2.2 | (with_reducible refine Kd.C_alloc ?_ _) | (with_reducible refine Kd.C_drewN ?_ _) | (with_reducible refine Kd.C_drew ?_))); (case side2 => exact (Kd.R_reads' HO242.out).2.1); (case side3 => repeat (first | exact (Kd.R_reads' HO_6.out).2.2 | (with_reducible refine Kd.C_alloc ?_ _) | (with_reducible refine Kd.C_drewN ?_ _) | (with_reducible refine Kd.C_drew ?_))); (case side4 => exact (Kd.R_reads' HO_6.out).2.1); rintro e w77 ⟨rfl, hb⟩; refine ⟨_, rfl, ?_⟩; replace HO_6 := Aside0.mk (Kd.R_below (zR HO_6) hb); replace HO_10 := Aside0.mk (Kd.R_below (zR HO_10) hb); replace HO237 := Aside0.mk (Kd.R_below (zR HO237) hb); replace HO242 := Aside0.mk (Kd.R_below (zR HO242) hb); replace HB := bS HB hb; (try clear hb)))
             go_meet
             case rel => exact ⟨_, (true), zF, H', ⟨by have := HJ8.out; have := HJ32.out; first | omega | exact Nat.le_refl _⟩, ⟨by (with_reducible repeat (first | apply Kd.R_alloc | apply Kd.R_drewN | apply Kd.R_drew)); exact Kd.R_mono HO_10.out (fun _ hk => trivial)⟩, ⟨zB HB⟩⟩
           case rest =>
            clear HC60
            try clear c1
            try clear c2
            try clear p2
            try clear c3
            try clear c4
            try clear c4b0
            try clear c5
            try clear c6
            try clear c7
            try clear c8
            try clear c9
            try clear c10
            try clear c11
            try clear c17
            try clear c18
            try clear c18b0
            try clear c18b1
            try clear c28
            try clear c31
            try clear c38
            try clear c38b0
            try clear c40
            try clear c41
            try clear c41b0
            try clear c41b1
            try clear c51
            try clear c54
            try clear c54b0
            try clear c57
            try clear c57b0
            try clear c57b1
            try clear c67
            try clear c68
            try clear c68b0
            try clear c68b1
            try clear p2
            obtain ⟨kq, x113_59, rfl, HA, HJ59, HO_10, HB⟩ := hcut
            have hl10_59 := (Kd.R_reads' HO_10.out).1
            rw [hl10_59] at HO_10
            (try simp only [hl10_59])
            cases kq with
            | zero => exact absurd HA.out (by simp [laws_FnExactAssignTag.j2])
            | succ kj59 =>
             have H := HA.out
             clear HA
             simp only [laws_FnExactAssignTag.j2] at H
             by_cases c78 : x113_59 = true
             ·subst c78
              have H1 : (some false) = some r := by rw [if_pos rfl] at H; exact H
              clear H
              have H := H1
              clear H1
              obtain rfl := Option.some.inj H
              go_wp2
              go_ret
              exact ⟨zE, zB HB⟩
             ·replace c78 := Bool.eq_false_iff.mpr c78
              subst c78
              have H1 : ((laws_heldEntryS.f kj59 t233 1).bind fun t244 => (if t244 < 0 then (some false) else (if t244 = t232 then (some true) else (some false)))) = some r := by rw [if_neg (show ¬ (false = true) by decide)] at H; exact H
              clear H
              have H := H1
              clear H1
              obtain ⟨t244, A79, H⟩ := bindS H
              by_cases c80 : t244 < 0
              ·rw [if_pos c80] at H
               have c80b0 : decide (t244 < 0) = true := decide_eq_true c80
               clear c80
               obtain rfl := Option.some.inj H
               go_wp2_with (first | ((with_reducible refine gate_callee (f := 11) rfl ?_); refine goesL_ (some 116) rfl rfl Try.func11 (by kernel_rfl) rfl #[.slice Ao61 t233.length co61, .int .i64 1] rfl zG ?_; (with_reducible refine (laws_heldEntryS.calls kj59 _ _ t233 1 t244 _ ?side1 ?side2 A79.out).mono ?_); (case side1 => repeat (first | exact (Kd.R_reads' HO_10.out).2.2 | (with_reducible refine Kd.C_alloc ?_ _) | (with_reducible refine Kd.C_drewN ?_ _) | (with_reducible refine Kd.C_drew ?_))); (case side2 => exact (Kd.R_reads' HO_10.out).2.1); rintro e w' ⟨rfl, ⟨nd, rfl⟩⟩; refine ⟨_, rfl, ?_⟩))
               go_ret
               exact ⟨zE, zB HB⟩
              ·rw [if_neg c80] at H
               have c80b0 : decide (t244 < 0) = false := decide_eq_false c80
               clear c80
               by_cases c81 : t244 = t232
               ·rw [if_pos c81] at H
                have c81b0 : (t244 == t232) = true := beq_iff_eq.mpr c81
                have c81b1 : (t244 != t232) = false := bne_eq_false_iff_eq.mpr c81
                clear c81
                obtain rfl := Option.some.inj H
                go_wp2_with (first | ((with_reducible refine gate_callee (f := 11) rfl ?_); refine goesL_ (some 116) rfl rfl Try.func11 (by kernel_rfl) rfl #[.slice Ao61 t233.length co61, .int .i64 1] rfl zG ?_; (with_reducible refine (laws_heldEntryS.calls kj59 _ _ t233 1 t244 _ ?side1 ?side2 A79.out).mono ?_); (case side1 => repeat (first | exact (Kd.R_reads' HO_10.out).2.2 | (with_reducible refine Kd.C_alloc ?_ _) | (with_reducible refine Kd.C_drewN ?_ _) | (with_reducible refine Kd.C_drew ?_))); (case side2 => exact (Kd.R_reads' HO_10.out).2.1); rintro e w' ⟨rfl, ⟨nd, rfl⟩⟩; refine ⟨_, rfl, ?_⟩))
                go_ret
                exact ⟨zE, zB HB⟩
               ·rw [if_neg c81] at H
                have c81b0 : (t244 == t232) = false := beq_eq_false_iff_ne.mpr c81
                have c81b1 : (t244 != t232) = true := bne_iff_ne.mpr c81
                obtain rfl := Option.some.inj H
                go_wp2_with (first | ((with_reducible refine gate_callee (f := 11) rfl ?_); refine goesL_ (some 116) rfl rfl Try.func11 (by kernel_rfl) rfl #[.slice Ao61 t233.length co61, .int .i64 1] rfl zG ?_; (with_reducible refine (laws_heldEntryS.calls kj59 _ _ t233 1 t244 _ ?side1 ?side2 A79.out).mono ?_); (case side1 => repeat (first | exact (Kd.R_reads' HO_10.out).2.2 | (with_reducible refine Kd.C_alloc ?_ _) | (with_reducible refine Kd.C_drewN ?_ _) | (with_reducible refine Kd.C_drew ?_))); (case side2 => exact (Kd.R_reads' HO_10.out).2.1); rintro e w' ⟨rfl, ⟨nd, rfl⟩⟩; refine ⟨_, rfl, ?_⟩))
                go_ret
                exact ⟨zE, zB HB⟩
          ·rw [if_neg c57] at H
           have c57b0 : (t234 == t232) = false := beq_eq_false_iff_ne.mpr c57
           have c57b1 : (t234 != t232) = true := bne_iff_ne.mpr c57
           obtain rfl := Option.some.inj H
           obtain ⟨Ao82, co82, eo82⟩ := Kd.R_slice HO_10.out
           subst eo82
           go_wp2_with (first | ((with_reducible refine gate_callee (f := 10) rfl ?_); refine goesL_ (some 83) rfl rfl Try.func10 (by kernel_rfl) rfl #[.slice Ao82 t219.length co82, .int .i64 1] rfl zG ?_; (with_reducible refine (laws_markEntryS.calls kj32 (fun k_ => some k_ = (.slice Ao82 t219.length co82 : Value).ownBlock) (.slice Ao82 t219.length co82) t219 1 t232 t233 w _ ?side1 ?side2 A52.out).mono ?_); (case side1 => repeat (first | (with_reducible first | exact HB.out | apply below_alloc | apply pw_below_drewN | apply below_drew1) | exact HB.out)); (case side2 => exact Kd.R_tight rfl HO_10.out); rintro e w83 ⟨rfl, hy0, hb, hkp⟩; refine ⟨_, rfl, ?_⟩; replace HO_6 := Aside0.mk (Kd.R_mono (ok' := fun k_ => some k_ ≠ (.slice Ao82 t219.length co82 : Value).ownBlock) (Kd.R_keptB (HO_6.out) hkp (fun k_ hk_ hs_ => (hk_) hs_)) (fun k_ hk_ => (pick hk_))); replace HO_10 := Aside0.mk (Kd.R_reok rfl hy0 (fun k_ e_ => HO_10.out.1 k_ e_)); replace HB := Aside0.mk (hb); (try clear hb); (try clear hkp); (try clear hy0)) | ((with_reducible refine gate_callee (f := 11) rfl ?_); refine goesL_ (some 86) rfl rfl Try.func11 (by kernel_rfl) rfl #[.slice Ao82 t233.length co82, .int .i64 1] rfl (by (try simp only [List.map_toArray, List.map_cons, List.map_nil]); first | done | (rw [show t233.length = t219.length from (Kd.R_reads' HO_10.out).1.symm] <;> rfl) | rfl | (simp only [List.length_drop, List.length_take]; rfl)) ?_; (with_reducible refine (laws_heldEntryS.calls kj32 _ _ t233 1 t234 _ ?side1 ?side2 A53.out).mono ?_); (case side1 => repeat (first | exact (Kd.R_reads' HO_10.out).2.2 | (with_reducible refine Kd.C_alloc ?_ _) | (with_reducible refine Kd.C_drewN ?_ _) | (with_reducible refine Kd.C_drew ?_))); (case side2 => rw [show t233.length = t219.length from (Kd.R_reads' HO_10.out).1.symm]; exact (Kd.R_reads' HO_10.out).2.1); rintro e w' ⟨rfl, ⟨nd, rfl⟩⟩; refine ⟨_, rfl, ?_⟩))
           go_ret
           exact ⟨zE, zB HB⟩
     ·replace c31 := Bool.eq_false_iff.mpr c31
      subst c31
      have H1 : (some false) = some r := by rw [if_neg (show ¬ (false = true) by decide)] at H; exact H
      clear H
      have H := H1
      clear H1
      obtain rfl := Option.some.inj H
      go_wp2_with (first | ((with_reducible refine gate_callee (f := 7) rfl ?_); refine goesL_ (some 57) rfl rfl Try.func7 (by kernel_rfl) rfl #[.slice A0 l0.length c0] rfl zG ?_; (with_reducible refine (laws_toEntryS.calls kj8 _ _ l0 t225 _ ?side1 ?side2 A29.out).mono ?_); (case side1 => exact cS HR0 HB); (case side2 => exact HC0.out); rintro e w84 ⟨v226, rfl, ho0, hb⟩; refine ⟨_, rfl, ?_⟩; have HO227 := Aside0.mk (Kd.R_lower (Kd.R_new' (Kd.R_new' (Kd.R_new' ho0 (Kd.R_lt (zR HO_6))) (Kd.R_lt (zR HO_9))) (Kd.R_lt (zR HO_10))) (below_size (zB HB))); replace HO_6 := Aside0.mk (Kd.R_elder' (zR HO_6) (Kd.R_base ho0) hb); replace HO_9 := Aside0.mk (Kd.R_elder' (zR HO_9) (Kd.R_base ho0) hb); replace HO_10 := Aside0.mk (Kd.R_elder' (zR HO_10) (Kd.R_base ho0) hb); replace HB := bS HB hb; (try clear hb); (try clear ho0); obtain ⟨Ao85, co85, eo85⟩ := Kd.R_slice HO227.out; subst eo85) | ((with_reducible refine gate_callee (f := 9) rfl ?_); refine goesL_ (some 58) rfl rfl Try.func9 (by kernel_rfl) rfl #[.slice Ao14 t216.length co14, .slice Ao85 t225.length co85] rfl zG ?_; (with_reducible refine (laws_eqEntryS.calls kj8 _ _ t216 _ _ t225 false _ ?side1 ?side2 ?side3 ?side4 A30.out).mono ?_); (case side1 => repeat (first | exact (Kd.R_reads' HO_9.out).2.2 | (with_reducible refine Kd.C_alloc ?_ _) | (with_reducible refine Kd.C_drewN ?_ _) | (with_reducible refine Kd.C_drew ?_))); (case side2 => exact (Kd.R_reads' HO_9.out).2.1); (case side3 => repeat (first | exact (Kd.R_reads' HO227.out).2.2 | (with_reducible refine Kd.C_alloc ?_ _) | (with_reducible refine Kd.C_drewN ?_ _) | (with_reducible refine Kd.C_drew ?_))); (case side4 => exact (Kd.R_reads' HO227.out).2.1); rintro e w86 ⟨rfl, hb⟩; refine ⟨_, rfl, ?_⟩; replace HO_6 := Aside0.mk (Kd.R_below (zR HO_6) hb); replace HO_9 := Aside0.mk (Kd.R_below (zR HO_9) hb); replace HO_10 := Aside0.mk (Kd.R_below (zR HO_10) hb); replace HO227 := Aside0.mk (Kd.R_below (zR HO227) hb); replace HB := bS HB hb; (try clear hb)))
      go_ret
      exact ⟨zE, zB HB⟩
/-- What is known of a value of type 49 that came in. -/
def W49 (x : S49) : Prop := (Lit.int .i64 x.f0).wf = true ∧ (Lit.int .i64 x.f1).wf = true ∧ True

/-- The pure statement of laws_FnExactAssignTag. -/
def laws_FnExactAssignTag.Pure : Prop := ∀ (l0 : List (S49)) (a1 : Int), l0.length ≤ 9223372036854775807 → (∀ x ∈ l0, W49 x) → (Lit.int .i64 a1).wf = true → ∃ k, laws_FnExactAssignTag.f k l0 a1 = some true

end Go.Proofs.Ytgbfbdeeaogigaa.PFnExactAssignTag
