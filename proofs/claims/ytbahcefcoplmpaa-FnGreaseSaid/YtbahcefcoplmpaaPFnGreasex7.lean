-- WRITTEN by pp.py, this session's own wrapper around the print; not trusted: Lean checks it
import Derived.Test.YtbahcefcoplmpaaPFnGreasex0
import Derived.Test.YtbahcefcoplmpaaPFnGreasex1
import Derived.Test.YtbahcefcoplmpaaPFnGreasex2
import Derived.Test.YtbahcefcoplmpaaPFnGreasex3
import Derived.Test.YtbahcefcoplmpaaPFnGreasex5
import Derived.Test.YtbahcefcoplmpaaPFnGreasex6
namespace Go.Proofs.Ytbahcefcoplmpaa.PFnGrease
open Go.RowKit Go.Proofs.Ytbahcefcoplmpaa.Hw Go.Proofs.YtbahcefcoplmpaaW.PrintWords Go.Proofs.YtbahcefcoplmpaaW.PrintLast Go.Proofs.YtbahcefcoplmpaaW.PrintMore
attribute [local go_sem] max2_int min2_int max_two min_two max_three min_three max_four min_four   -- for this text's walks alone
set_option linter.unusedVariables false
set_option linter.unusedSimpArgs false
set_option linter.unusedSectionVars false

/-! ### laws_FnGrease: function 4 -/
mutual
def laws_FnGrease.j0 : Nat → List Int → List (S46) → List (S46) → Int → Bool → Option (Bool)
 | 0, _, _, _, _, _ => none
 | k + 1, x0, x3, x5, x6, x41 => if x41 = true then (some false) else ((some (([1, 2, 3, 40, 200] : List Int) : List Int)).bind fun y327 => ((impl_KnownOf.f k x5 y327).bind fun t330 => ((impl_KnownOf.f k x3 y327).bind fun t333 => ((impl_EqualExts.f k t330 t333).bind fun t336 => (if t336 = true then ((impl_AreExts.f k x3).bind fun t337 => (if t337 = true then (if (x3.length : Int) < 6 then ((impl_ExtOf.f x5 x6).bind fun t338 => (laws_FnGrease.j1 k x0 (decide (t338 < 0)))) else (laws_FnGrease.j1 k x0 false)) else (laws_FnGrease.j1 k x0 false))) else (some false))))))
def laws_FnGrease.j1 : Nat → List Int → Bool → Option (Bool)
 | 0, _, _ => none
 | k + 1, x0, x63 => if x63 = true then (some false) else ((spec_DrawStripGrease.f k x0).bind fun t339 => ((impl_StripGrease.f k t339).bind fun t342 => ((impl_HasGrease.f k t339).bind fun t345 => ((impl_TagsOf.f k t339).bind fun t346 => ((impl_IsHardened.f t346).bind fun t349 => (if (t345 == t349) = true then ((impl_HasGrease.f k t342).bind fun t350 => (if t350 = true then (some false) else ((impl_StripGrease.f k t342).bind fun t351 => ((impl_EqualExts.f k t351 t342).bind fun t354 => (some t354))))) else (some false)))))))
end
def laws_FnGrease.f (k : Nat) (l0 : List Int) : Option (Bool) := (laws_big.f l0).bind fun t301 => (if t301 = true then (some true) else ((spec_DrawAddGrease.f k l0).bind fun bt302 => ((impl_AddGrease.f k bt302.1 bt302.2).bind fun t306 => ((impl_GreaseTag.f k bt302.2).bind fun t309 => ((impl_IsReserved.f t309).bind fun t310 => (if t310 = true then ((impl_AreExts.f k bt302.1).bind fun t311 => (if t311 = true then ((impl_AreExts.f k t306).bind fun t312 => (if t312 = true then ((impl_StripGrease.f k t306).bind fun t313 => ((impl_StripGrease.f k bt302.1).bind fun t316 => ((impl_EqualExts.f k t313 t316).bind fun t319 => (laws_FnGrease.j0 k l0 bt302.1 t306 t309 (!t319))))) else (laws_FnGrease.j0 k l0 bt302.1 t306 t309 true))) else ((impl_StripGrease.f k t306).bind fun t320 => ((impl_StripGrease.f k bt302.1).bind fun t323 => ((impl_EqualExts.f k t320 t323).bind fun t326 => (laws_FnGrease.j0 k l0 bt302.1 t306 t309 (!t326))))))) else (laws_FnGrease.j0 k l0 bt302.1 t306 t309 true)))))))
theorem laws_FnGrease.mono_l : ∀ k, (∀ y0 y1 y2 y3 y4, LeO (laws_FnGrease.j0 k y0 y1 y2 y3 y4) (laws_FnGrease.j0 (k + 1) y0 y1 y2 y3 y4)) ∧ (∀ y0 y1, LeO (laws_FnGrease.j1 k y0 y1) (laws_FnGrease.j1 (k + 1) y0 y1))
 | 0 => ⟨fun _ _ _ _ _ r h => by simp [laws_FnGrease.j0] at h, fun _ _ r h => by simp [laws_FnGrease.j1] at h⟩
 | k + 1 => by
  obtain ⟨ih0, ih1⟩ := laws_FnGrease.mono_l k
  refine ⟨?_, ?_⟩
  ·intro y0 y1 y2 y3 y4
   unfold laws_FnGrease.j0
   repeat' first
   | (with_reducible exact ih0 _ _ _ _ _)
   | (with_reducible exact ih1 _ _)
   | (with_reducible exact impl_AddGrease.mono _ _ _)
   | (with_reducible exact impl_AreExts.mono _ _)
   | (with_reducible exact impl_EqualExts.mono _ _ _)
   | (with_reducible exact impl_GreaseTag.mono _ _)
   | (with_reducible exact impl_HasGrease.mono _ _)
   | (with_reducible exact impl_KnownOf.mono _ _ _)
   | (with_reducible exact impl_StripGrease.mono _ _)
   | (with_reducible exact impl_TagsOf.mono _ _)
   | (with_reducible exact spec_DrawAddGrease.mono _ _)
   | (with_reducible exact spec_DrawStripGrease.mono _ _)
   | (with_reducible exact LeO.refl _)
   | (with_reducible exact LeO.none _)
   | (with_reducible refine LeO.ite ?_ ?_)
   | (with_reducible refine LeO.bind ?_ (fun _ => ?_))
   | exact ih0 _ _ _ _ _
   | exact ih1 _ _
   | exact impl_AddGrease.mono _ _ _
   | exact impl_AreExts.mono _ _
   | exact impl_EqualExts.mono _ _ _
   | exact impl_GreaseTag.mono _ _
   | exact impl_HasGrease.mono _ _
   | exact impl_KnownOf.mono _ _ _
   | exact impl_StripGrease.mono _ _
   | exact impl_TagsOf.mono _ _
   | exact spec_DrawAddGrease.mono _ _
   | exact spec_DrawStripGrease.mono _ _
   | exact LeO.none _
   | refine LeO.ite ?_ ?_
   | refine LeO.bind ?_ (fun _ => ?_)
  ·intro y0 y1
   unfold laws_FnGrease.j1
   repeat' first
   | (with_reducible exact ih0 _ _ _ _ _)
   | (with_reducible exact ih1 _ _)
   | (with_reducible exact impl_AddGrease.mono _ _ _)
   | (with_reducible exact impl_AreExts.mono _ _)
   | (with_reducible exact impl_EqualExts.mono _ _ _)
   | (with_reducible exact impl_GreaseTag.mono _ _)
   | (with_reducible exact impl_HasGrease.mono _ _)
   | (with_reducible exact impl_KnownOf.mono _ _ _)
   | (with_reducible exact impl_StripGrease.mono _ _)
   | (with_reducible exact impl_TagsOf.mono _ _)
   | (with_reducible exact spec_DrawAddGrease.mono _ _)
   | (with_reducible exact spec_DrawStripGrease.mono _ _)
   | (with_reducible exact LeO.refl _)
   | (with_reducible exact LeO.none _)
   | (with_reducible refine LeO.ite ?_ ?_)
   | (with_reducible refine LeO.bind ?_ (fun _ => ?_))
   | exact ih0 _ _ _ _ _
   | exact ih1 _ _
   | exact impl_AddGrease.mono _ _ _
   | exact impl_AreExts.mono _ _
   | exact impl_EqualExts.mono _ _ _
   | exact impl_GreaseTag.mono _ _
   | exact impl_HasGrease.mono _ _
   | exact impl_KnownOf.mono _ _ _
   | exact impl_StripGrease.mono _ _
   | exact impl_TagsOf.mono _ _
   | exact spec_DrawAddGrease.mono _ _
   | exact spec_DrawStripGrease.mono _ _
   | exact LeO.none _
   | refine LeO.ite ?_ ?_
   | refine LeO.bind ?_ (fun _ => ?_)
theorem laws_FnGrease.mono : ∀ a0 k, LeO (laws_FnGrease.f k a0) (laws_FnGrease.f (k + 1) a0) := by
 intro a0 k
 obtain ⟨ih0, ih1⟩ := laws_FnGrease.mono_l k
 unfold laws_FnGrease.f
 repeat' first
   | (with_reducible exact ih0 _ _ _ _ _)
   | (with_reducible exact ih1 _ _)
   | (with_reducible exact impl_AddGrease.mono _ _ _)
   | (with_reducible exact impl_AreExts.mono _ _)
   | (with_reducible exact impl_EqualExts.mono _ _ _)
   | (with_reducible exact impl_GreaseTag.mono _ _)
   | (with_reducible exact impl_HasGrease.mono _ _)
   | (with_reducible exact impl_KnownOf.mono _ _ _)
   | (with_reducible exact impl_StripGrease.mono _ _)
   | (with_reducible exact impl_TagsOf.mono _ _)
   | (with_reducible exact spec_DrawAddGrease.mono _ _)
   | (with_reducible exact spec_DrawStripGrease.mono _ _)
   | (with_reducible exact LeO.refl _)
   | (with_reducible exact LeO.none _)
   | (with_reducible refine LeO.ite ?_ ?_)
   | (with_reducible refine LeO.bind ?_ (fun _ => ?_))
   | exact ih0 _ _ _ _ _
   | exact ih1 _ _
   | exact impl_AddGrease.mono _ _ _
   | exact impl_AreExts.mono _ _
   | exact impl_EqualExts.mono _ _ _
   | exact impl_GreaseTag.mono _ _
   | exact impl_HasGrease.mono _ _
   | exact impl_KnownOf.mono _ _ _
   | exact impl_StripGrease.mono _ _
   | exact impl_TagsOf.mono _ _
   | exact spec_DrawAddGrease.mono _ _
   | exact spec_DrawStripGrease.mono _ _
   | exact LeO.none _
   | refine LeO.ite ?_ ?_
   | refine LeO.bind ?_ (fun _ => ?_)
set_option maxHeartbeats 8000000 in
set_option maxRecDepth 100000 in
theorem laws_FnGrease.calls (k : Nat) (A0 : Option Addr) (c0 : Nat) (l0 : List Int) (r : Bool) (w : World) (hr0 : Kd.C (Kd.int .u8) w A0 l0.length l0) (hc0 : l0.length ≤ c0) (ht_ : r = true) (h : laws_FnGrease.f k l0 = some r) :
  Calls Try.prog 4 #[.slice A0 l0.length c0] w fun e w' => e = .returned (.bool r) ∧ Below w.heap.size w w' := by
 have HR0 := Aside0.mk hr0
 have HC0 := Aside0.mk hc0
 clear hr0 hc0
 have HB := Aside0.mk (Below.refl w.heap.size w)
 have H : ((laws_big.f l0).bind fun t301 => (if t301 = true then (some true) else ((spec_DrawAddGrease.f k l0).bind fun bt302 => ((impl_AddGrease.f k bt302.1 bt302.2).bind fun t306 => ((impl_GreaseTag.f k bt302.2).bind fun t309 => ((impl_IsReserved.f t309).bind fun t310 => (if t310 = true then ((impl_AreExts.f k bt302.1).bind fun t311 => (if t311 = true then ((impl_AreExts.f k t306).bind fun t312 => (if t312 = true then ((impl_StripGrease.f k t306).bind fun t313 => ((impl_StripGrease.f k bt302.1).bind fun t316 => ((impl_EqualExts.f k t313 t316).bind fun t319 => (laws_FnGrease.j0 k l0 bt302.1 t306 t309 (!t319))))) else (laws_FnGrease.j0 k l0 bt302.1 t306 t309 true))) else ((impl_StripGrease.f k t306).bind fun t320 => ((impl_StripGrease.f k bt302.1).bind fun t323 => ((impl_EqualExts.f k t320 t323).bind fun t326 => (laws_FnGrease.j0 k l0 bt302.1 t306 t309 (!t326))))))) else (laws_FnGrease.j0 k l0 bt302.1 t306 t309 true)))))))) = some r := h
 clear h
 obtain ⟨t301, A2, H⟩ := bindS H
 by_cases c3 : t301 = true
 ·subst c3
  have H1 : (some true) = some r := by rw [if_pos rfl] at H; exact H
  clear H
  have H := H1
  clear H1
  obtain rfl := Option.some.inj H
  go_enter Try.func4, Try.ntmps4
  go_wp2_with (first | ((with_reducible refine gate_callee (f := 12) rfl ?_); refine goesL_ (some 11) rfl rfl Try.func12 (by kernel_rfl) rfl #[.slice A0 l0.length c0] rfl zG ?_; (with_reducible refine (laws_big.calls _ _ l0 true _ ?side1 ?side2 A2.out).mono ?_); (case side1 => exact cT HR0); (case side2 => exact HC0.out); rintro e w' ⟨rfl, ⟨nd, rfl⟩⟩; refine ⟨_, rfl, ?_⟩))
  go_ret
  exact ⟨zE, zB HB⟩
 ·replace c3 := Bool.eq_false_iff.mpr c3
  subst c3
  have H1 : ((spec_DrawAddGrease.f k l0).bind fun bt302 => ((impl_AddGrease.f k bt302.1 bt302.2).bind fun t306 => ((impl_GreaseTag.f k bt302.2).bind fun t309 => ((impl_IsReserved.f t309).bind fun t310 => (if t310 = true then ((impl_AreExts.f k bt302.1).bind fun t311 => (if t311 = true then ((impl_AreExts.f k t306).bind fun t312 => (if t312 = true then ((impl_StripGrease.f k t306).bind fun t313 => ((impl_StripGrease.f k bt302.1).bind fun t316 => ((impl_EqualExts.f k t313 t316).bind fun t319 => (laws_FnGrease.j0 k l0 bt302.1 t306 t309 (!t319))))) else (laws_FnGrease.j0 k l0 bt302.1 t306 t309 true))) else ((impl_StripGrease.f k t306).bind fun t320 => ((impl_StripGrease.f k bt302.1).bind fun t323 => ((impl_EqualExts.f k t320 t323).bind fun t326 => (laws_FnGrease.j0 k l0 bt302.1 t306 t309 (!t326))))))) else (laws_FnGrease.j0 k l0 bt302.1 t306 t309 true)))))) = some r := by rw [if_neg (show ¬ (false = true) by decide)] at H; exact H
  clear H
  have H := H1
  clear H1
  replace H := Option.bind_eq_some_iff.mp H
  obtain ⟨⟨t302, t303⟩, A40, H⟩ := H
  replace H : ((impl_AddGrease.f k t302 t303).bind fun t306 => ((impl_GreaseTag.f k t303).bind fun t309 => ((impl_IsReserved.f t309).bind fun t310 => (if t310 = true then ((impl_AreExts.f k t302).bind fun t311 => (if t311 = true then ((impl_AreExts.f k t306).bind fun t312 => (if t312 = true then ((impl_StripGrease.f k t306).bind fun t313 => ((impl_StripGrease.f k t302).bind fun t316 => ((impl_EqualExts.f k t313 t316).bind fun t319 => (laws_FnGrease.j0 k l0 t302 t306 t309 (!t319))))) else (laws_FnGrease.j0 k l0 t302 t306 t309 true))) else ((impl_StripGrease.f k t306).bind fun t320 => ((impl_StripGrease.f k t302).bind fun t323 => ((impl_EqualExts.f k t320 t323).bind fun t326 => (laws_FnGrease.j0 k l0 t302 t306 t309 (!t326))))))) else (laws_FnGrease.j0 k l0 t302 t306 t309 true))))) = some r := H
  have A4 := Aside0.mk A40
  clear A40
  obtain ⟨t306, A5, H⟩ := bindS H
  obtain ⟨t309, A6, H⟩ := bindS H
  have HC7 := Aside0.mk H
  clear H
  go_enter Try.func4, Try.ntmps4
  go_upto_region 6 with (first | ((with_reducible refine gate_callee (f := 12) rfl ?_); refine goesL_ (some 11) rfl rfl Try.func12 (by kernel_rfl) rfl #[.slice A0 l0.length c0] rfl zG ?_; (with_reducible refine (laws_big.calls _ _ l0 false _ ?side1 ?side2 A2.out).mono ?_); (case side1 => exact cT HR0); (case side2 => exact HC0.out); rintro e w' ⟨rfl, ⟨nd, rfl⟩⟩; refine ⟨_, rfl, ?_⟩) | ((with_reducible refine gate_callee (f := 13) rfl ?_); refine goesL_ (some 14) rfl rfl Try.func13 (by kernel_rfl) rfl #[.slice A0 l0.length c0] rfl zG ?_; (with_reducible refine (spec_DrawAddGrease.calls k _ _ l0 t302 t303 _ ?side1 ?side2 A4.out).mono ?_); (case side1 => exact cT HR0); (case side2 => exact HC0.out); rintro e w8 ⟨v304, rfl, ho0, hb⟩; refine ⟨_, rfl, ?_⟩; have HO305 := Aside0.mk (Kd.S_lower ho0 (below_size (zB HB))); replace HB := bS HB hb; (try clear hb); (try clear ho0); obtain ⟨Ao9, co9, eo9⟩ := Kd.S_slice HO305.out; subst eo9) | ((with_reducible refine gate_callee (f := 8) rfl ?_); refine goesL_ (some 19) rfl rfl Try.func8 (by kernel_rfl) rfl #[.slice Ao9 t302.length co9, .int .i64 t303] rfl zG ?_; (with_reducible refine (impl_AddGrease.calls k _ _ t302 t303 t306 _ ?side1 ?side2 A5.out).mono ?_); (case side1 => repeat (first | exact (Kd.S_reads' HO305.out).2.2 | (with_reducible refine Kd.C_alloc ?_ _) | (with_reducible refine Kd.C_drewN ?_ _) | (with_reducible refine Kd.C_drew ?_))); (case side2 => exact (Kd.S_reads' HO305.out).2.1); rintro e w10 ⟨v307, rfl, ho0, hb⟩; refine ⟨_, rfl, ?_⟩; have HO308 := Aside0.mk (Kd.S_lower (Kd.S_new' ho0 (Kd.S_lt (zS HO305))) (below_size (zB HB))); replace HO305 := Aside0.mk (Kd.S_elder' (zS HO305) (Kd.S_base ho0) hb); replace HB := bS HB hb; (try clear hb); (try clear ho0)) | ((with_reducible refine gate_callee (f := 14) rfl ?_); refine goesL_ (some 21) rfl rfl Try.func14 (by kernel_rfl) rfl #[.int .i64 t303] rfl zG ?_; (with_reducible refine (impl_GreaseTag.calls k t303 t309 _ A6.out).mono ?_); rintro e w11 ⟨rfl, hb⟩; refine ⟨_, rfl, ?_⟩; replace HO305 := Aside0.mk (Kd.S_below (zS HO305) hb); replace HO308 := Aside0.mk (Kd.S_below (zS HO308) hb); replace HB := bS HB hb; (try clear hb)))
  (try simp only [Act.put, List.setIfInBounds_toArray, List.set_cons_zero, List.set_cons_succ])
  go_cut [41] (fun v41 wc => ∃ (kq : Nat) (x41_6 : Bool), v41 = .bool x41_6 ∧ Aside0 (laws_FnGrease.j0 kq l0 t302 t306 t309 x41_6 = some r) ∧ Aside0 (kq ≤ k) ∧ Aside0 (Kd.S k46 46 wc w.heap.size (fun k_ => some k_ ≠ (v307 : Value).ownBlock) (.slice Ao9 t302.length co9) t302) ∧ Aside0 (Kd.S k46 46 wc w.heap.size (fun k_ => some k_ ≠ ((.slice Ao9 t302.length co9) : Value).ownBlock) v307 t306) ∧ Aside0 (Below w.heap.size w wc))
  case first =>
   have H := HC7.out
   clear HC7
   obtain ⟨t310, A12, H⟩ := bindS H
   by_cases c13 : t310 = true
   ·subst c13
    have H1 : ((impl_AreExts.f k t302).bind fun t311 => (if t311 = true then ((impl_AreExts.f k t306).bind fun t312 => (if t312 = true then ((impl_StripGrease.f k t306).bind fun t313 => ((impl_StripGrease.f k t302).bind fun t316 => ((impl_EqualExts.f k t313 t316).bind fun t319 => (laws_FnGrease.j0 k l0 t302 t306 t309 (!t319))))) else (laws_FnGrease.j0 k l0 t302 t306 t309 true))) else ((impl_StripGrease.f k t306).bind fun t320 => ((impl_StripGrease.f k t302).bind fun t323 => ((impl_EqualExts.f k t320 t323).bind fun t326 => (laws_FnGrease.j0 k l0 t302 t306 t309 (!t326))))))) = some r := by rw [if_pos rfl] at H; exact H
    clear H
    have H := H1
    clear H1
    obtain ⟨t311, A14, H⟩ := bindS H
    by_cases c15 : t311 = true
    ·subst c15
     have H1 : ((impl_AreExts.f k t306).bind fun t312 => (if t312 = true then ((impl_StripGrease.f k t306).bind fun t313 => ((impl_StripGrease.f k t302).bind fun t316 => ((impl_EqualExts.f k t313 t316).bind fun t319 => (laws_FnGrease.j0 k l0 t302 t306 t309 (!t319))))) else (laws_FnGrease.j0 k l0 t302 t306 t309 true))) = some r := by rw [if_pos rfl] at H; exact H
     clear H
     have H := H1
     clear H1
     obtain ⟨t312, A16, H⟩ := bindS H
     by_cases c17 : t312 = true
     ·subst c17
      have H1 : ((impl_StripGrease.f k t306).bind fun t313 => ((impl_StripGrease.f k t302).bind fun t316 => ((impl_EqualExts.f k t313 t316).bind fun t319 => (laws_FnGrease.j0 k l0 t302 t306 t309 (!t319))))) = some r := by rw [if_pos rfl] at H; exact H
      clear H
      have H := H1
      clear H1
      obtain ⟨t313, A18, H⟩ := bindS H
      obtain ⟨t316, A19, H⟩ := bindS H
      obtain ⟨t319, A20, H⟩ := bindS H
      have H' := Aside0.mk H
      clear H
      go_wp2_with (first | ((with_reducible refine gate_callee (f := 15) rfl ?_); refine goesL_ (some 23) rfl rfl Try.func15 (by kernel_rfl) rfl #[.int .i64 t309] rfl zG ?_; (with_reducible refine (impl_IsReserved.calls t309 true _ A12.out).mono ?_); rintro e w' ⟨rfl, ⟨nd, rfl⟩⟩; refine ⟨_, rfl, ?_⟩) | (go_at_call 16; (with_reducible refine (impl_AreExts.calls k _ _ t302 true _ ?side1 ?side2 A14.out).mono ?_); (case side1 => repeat (first | exact (Kd.S_reads' HO305.out).2.2 | (with_reducible refine Kd.C_alloc ?_ _) | (with_reducible refine Kd.C_drewN ?_ _) | (with_reducible refine Kd.C_drew ?_))); (case side2 => exact (Kd.S_reads' HO305.out).2.1); rintro e w21 ⟨rfl, hb⟩; replace HO305 := Aside0.mk (Kd.S_below (zS HO305) hb); replace HO308 := Aside0.mk (Kd.S_below (zS HO308) hb); replace HB := bS HB hb; (try clear hb); obtain ⟨Ao22, co22, eo22⟩ := Kd.S_slice HO308.out; subst eo22) | (go_at_call 16; (with_reducible refine (impl_AreExts.calls k _ _ t306 true _ ?side1 ?side2 A16.out).mono ?_); (case side1 => repeat (first | exact (Kd.S_reads' HO308.out).2.2 | (with_reducible refine Kd.C_alloc ?_ _) | (with_reducible refine Kd.C_drewN ?_ _) | (with_reducible refine Kd.C_drew ?_))); (case side2 => exact (Kd.S_reads' HO308.out).2.1); rintro e w23 ⟨rfl, hb⟩; replace HO305 := Aside0.mk (Kd.S_below (zS HO305) hb); replace HO308 := Aside0.mk (Kd.S_below (zS HO308) hb); replace HB := bS HB hb; (try clear hb)) | (go_at_call 18; (with_reducible refine (impl_StripGrease.calls k _ _ t306 t313 _ ?side1 ?side2 A18.out).mono ?_); (case side1 => repeat (first | exact (Kd.S_reads' HO308.out).2.2 | (with_reducible refine Kd.C_alloc ?_ _) | (with_reducible refine Kd.C_drewN ?_ _) | (with_reducible refine Kd.C_drew ?_))); (case side2 => exact (Kd.S_reads' HO308.out).2.1); rintro e w24 ⟨v314, rfl, ho0, hb⟩; have HO315 := Aside0.mk (Kd.S_lower (Kd.S_new' (Kd.S_new' ho0 (Kd.S_lt (zS HO305))) (Kd.S_lt (zS HO308))) (below_size (zB HB))); replace HO305 := Aside0.mk (Kd.S_elder' (zS HO305) (Kd.S_base ho0) hb); replace HO308 := Aside0.mk (Kd.S_elder' (zS HO308) (Kd.S_base ho0) hb); replace HB := bS HB hb; (try clear hb); (try clear ho0)) | (go_at_call 18; (with_reducible refine (impl_StripGrease.calls k _ _ t302 t316 _ ?side1 ?side2 A19.out).mono ?_); (case side1 => repeat (first | exact (Kd.S_reads' HO305.out).2.2 | (with_reducible refine Kd.C_alloc ?_ _) | (with_reducible refine Kd.C_drewN ?_ _) | (with_reducible refine Kd.C_drew ?_))); (case side2 => exact (Kd.S_reads' HO305.out).2.1); rintro e w25 ⟨v317, rfl, ho0, hb⟩; have HO318 := Aside0.mk (Kd.S_lower (Kd.S_new' (Kd.S_new' (Kd.S_new' ho0 (Kd.S_lt (zS HO305))) (Kd.S_lt (zS HO308))) (Kd.S_lt (zS HO315))) (below_size (zB HB))); replace HO305 := Aside0.mk (Kd.S_elder' (zS HO305) (Kd.S_base ho0) hb); replace HO308 := Aside0.mk (Kd.S_elder' (zS HO308) (Kd.S_base ho0) hb); replace HO315 := Aside0.mk (Kd.S_elder' (zS HO315) (Kd.S_base ho0) hb); replace HB := bS HB hb; (try clear hb); (try clear ho0); obtain ⟨Ao26, co26, eo26⟩ := Kd.S_slice HO315.out; subst eo26; obtain ⟨Ao27, co27, eo27⟩ := Kd.S_slice HO318.out; subst eo27) | (go_at_call 17; (with_reducible refine (impl_EqualExts.calls k _ _ t313 _ _ t316 t319 _ ?side1 ?side2 ?side3 ?side4 A20.out).mono ?_); (case side1 => repeat (first | exact (Kd.S_reads' HO315.out).2.2 | (with_reducible refine Kd.C_alloc ?_ _) | (with_reducible refine Kd.C_drewN ?_ _) | (with_reducible refine Kd.C_drew ?_))); (case side2 => exact (Kd.S_reads' HO315.out).2.1); (case side3 => repeat (first | exact (Kd.S_reads' HO318.out).2.2 | (with_reducible refine Kd.C_alloc ?_ _) | (with_reducible refine Kd.C_drewN ?_ _) | (with_reducible refine Kd.C_drew ?_))); (case side4 => exact (Kd.S_reads' HO318.out).2.1); rintro e w28 ⟨rfl, hb⟩; replace HO305 := Aside0.mk (Kd.S_below (zS HO305) hb); replace HO308 := Aside0.mk (Kd.S_below (zS HO308) hb); replace HO315 := Aside0.mk (Kd.S_below (zS HO315) hb); replace HO318 := Aside0.mk (Kd.S_below (zS HO318) hb); replace HB := bS HB hb; (try clear hb)))
      go_meet
      case rel => exact ⟨_, (!t319), zF, H', ⟨by first | omega | exact Nat.le_refl _⟩, ⟨by (with_reducible repeat (first | apply Kd.S_alloc | apply Kd.S_drewN | apply Kd.S_drew)); exact Kd.S_mono HO305.out (fun _ hk => hk.1.1.2)⟩, ⟨by (with_reducible repeat (first | apply Kd.S_alloc | apply Kd.S_drewN | apply Kd.S_drew)); exact Kd.S_mono HO308.out (fun _ hk => hk.1.1.2)⟩, ⟨zB HB⟩⟩
     ·replace c17 := Bool.eq_false_iff.mpr c17
      subst c17
      have H1 : (laws_FnGrease.j0 k l0 t302 t306 t309 true) = some r := by rw [if_neg (show ¬ (false = true) by decide)] at H; exact H
      clear H
      have H := H1
      clear H1
      have H' := Aside0.mk H
      clear H
      go_wp2_with (first | ((with_reducible refine gate_callee (f := 15) rfl ?_); refine goesL_ (some 23) rfl rfl Try.func15 (by kernel_rfl) rfl #[.int .i64 t309] rfl zG ?_; (with_reducible refine (impl_IsReserved.calls t309 true _ A12.out).mono ?_); rintro e w' ⟨rfl, ⟨nd, rfl⟩⟩; refine ⟨_, rfl, ?_⟩) | (go_at_call 16; (with_reducible refine (impl_AreExts.calls k _ _ t302 true _ ?side1 ?side2 A14.out).mono ?_); (case side1 => repeat (first | exact (Kd.S_reads' HO305.out).2.2 | (with_reducible refine Kd.C_alloc ?_ _) | (with_reducible refine Kd.C_drewN ?_ _) | (with_reducible refine Kd.C_drew ?_))); (case side2 => exact (Kd.S_reads' HO305.out).2.1); rintro e w29 ⟨rfl, hb⟩; replace HO305 := Aside0.mk (Kd.S_below (zS HO305) hb); replace HO308 := Aside0.mk (Kd.S_below (zS HO308) hb); replace HB := bS HB hb; (try clear hb); obtain ⟨Ao30, co30, eo30⟩ := Kd.S_slice HO308.out; subst eo30) | (go_at_call 16; (with_reducible refine (impl_AreExts.calls k _ _ t306 false _ ?side1 ?side2 A16.out).mono ?_); (case side1 => repeat (first | exact (Kd.S_reads' HO308.out).2.2 | (with_reducible refine Kd.C_alloc ?_ _) | (with_reducible refine Kd.C_drewN ?_ _) | (with_reducible refine Kd.C_drew ?_))); (case side2 => exact (Kd.S_reads' HO308.out).2.1); rintro e w31 ⟨rfl, hb⟩; replace HO305 := Aside0.mk (Kd.S_below (zS HO305) hb); replace HO308 := Aside0.mk (Kd.S_below (zS HO308) hb); replace HB := bS HB hb; (try clear hb)))
      go_meet
      case rel => exact ⟨_, (true), zF, H', ⟨by first | omega | exact Nat.le_refl _⟩, ⟨by (with_reducible repeat (first | apply Kd.S_alloc | apply Kd.S_drewN | apply Kd.S_drew)); exact Kd.S_mono HO305.out (fun _ hk => hk.2)⟩, ⟨by (with_reducible repeat (first | apply Kd.S_alloc | apply Kd.S_drewN | apply Kd.S_drew)); exact Kd.S_mono HO308.out (fun _ hk => hk.2)⟩, ⟨zB HB⟩⟩
    ·replace c15 := Bool.eq_false_iff.mpr c15
     subst c15
     have H1 : ((impl_StripGrease.f k t306).bind fun t320 => ((impl_StripGrease.f k t302).bind fun t323 => ((impl_EqualExts.f k t320 t323).bind fun t326 => (laws_FnGrease.j0 k l0 t302 t306 t309 (!t326))))) = some r := by rw [if_neg (show ¬ (false = true) by decide)] at H; exact H
     clear H
     have H := H1
     clear H1
     obtain ⟨t320, A32, H⟩ := bindS H
     obtain ⟨t323, A33, H⟩ := bindS H
     obtain ⟨t326, A34, H⟩ := bindS H
     have H' := Aside0.mk H
     clear H
     go_wp2_with (first | ((with_reducible refine gate_callee (f := 15) rfl ?_); refine goesL_ (some 23) rfl rfl Try.func15 (by kernel_rfl) rfl #[.int .i64 t309] rfl zG ?_; (with_reducible refine (impl_IsReserved.calls t309 true _ A12.out).mono ?_); rintro e w' ⟨rfl, ⟨nd, rfl⟩⟩; refine ⟨_, rfl, ?_⟩) | (go_at_call 16; (with_reducible refine (impl_AreExts.calls k _ _ t302 false _ ?side1 ?side2 A14.out).mono ?_); (case side1 => repeat (first | exact (Kd.S_reads' HO305.out).2.2 | (with_reducible refine Kd.C_alloc ?_ _) | (with_reducible refine Kd.C_drewN ?_ _) | (with_reducible refine Kd.C_drew ?_))); (case side2 => exact (Kd.S_reads' HO305.out).2.1); rintro e w35 ⟨rfl, hb⟩; replace HO305 := Aside0.mk (Kd.S_below (zS HO305) hb); replace HO308 := Aside0.mk (Kd.S_below (zS HO308) hb); replace HB := bS HB hb; (try clear hb); obtain ⟨Ao36, co36, eo36⟩ := Kd.S_slice HO308.out; subst eo36) | (go_at_call 18; (with_reducible refine (impl_StripGrease.calls k _ _ t306 t320 _ ?side1 ?side2 A32.out).mono ?_); (case side1 => repeat (first | exact (Kd.S_reads' HO308.out).2.2 | (with_reducible refine Kd.C_alloc ?_ _) | (with_reducible refine Kd.C_drewN ?_ _) | (with_reducible refine Kd.C_drew ?_))); (case side2 => exact (Kd.S_reads' HO308.out).2.1); rintro e w37 ⟨v321, rfl, ho0, hb⟩; have HO322 := Aside0.mk (Kd.S_lower (Kd.S_new' (Kd.S_new' ho0 (Kd.S_lt (zS HO305))) (Kd.S_lt (zS HO308))) (below_size (zB HB))); replace HO305 := Aside0.mk (Kd.S_elder' (zS HO305) (Kd.S_base ho0) hb); replace HO308 := Aside0.mk (Kd.S_elder' (zS HO308) (Kd.S_base ho0) hb); replace HB := bS HB hb; (try clear hb); (try clear ho0)) | (go_at_call 18; (with_reducible refine (impl_StripGrease.calls k _ _ t302 t323 _ ?side1 ?side2 A33.out).mono ?_); (case side1 => repeat (first | exact (Kd.S_reads' HO305.out).2.2 | (with_reducible refine Kd.C_alloc ?_ _) | (with_reducible refine Kd.C_drewN ?_ _) | (with_reducible refine Kd.C_drew ?_))); (case side2 => exact (Kd.S_reads' HO305.out).2.1); rintro e w38 ⟨v324, rfl, ho0, hb⟩; have HO325 := Aside0.mk (Kd.S_lower (Kd.S_new' (Kd.S_new' (Kd.S_new' ho0 (Kd.S_lt (zS HO305))) (Kd.S_lt (zS HO308))) (Kd.S_lt (zS HO322))) (below_size (zB HB))); replace HO305 := Aside0.mk (Kd.S_elder' (zS HO305) (Kd.S_base ho0) hb); replace HO308 := Aside0.mk (Kd.S_elder' (zS HO308) (Kd.S_base ho0) hb); replace HO322 := Aside0.mk (Kd.S_elder' (zS HO322) (Kd.S_base ho0) hb); replace HB := bS HB hb; (try clear hb); (try clear ho0); obtain ⟨Ao39, co39, eo39⟩ := Kd.S_slice HO322.out; subst eo39; obtain ⟨Ao40, co40, eo40⟩ := Kd.S_slice HO325.out; subst eo40) | (go_at_call 17; (with_reducible refine (impl_EqualExts.calls k _ _ t320 _ _ t323 t326 _ ?side1 ?side2 ?side3 ?side4 A34.out).mono ?_); (case side1 => repeat (first | exact (Kd.S_reads' HO322.out).2.2 | (with_reducible refine Kd.C_alloc ?_ _) | (with_reducible refine Kd.C_drewN ?_ _) | (with_reducible refine Kd.C_drew ?_))); (case side2 => exact (Kd.S_reads' HO322.out).2.1); (case side3 => repeat (first | exact (Kd.S_reads' HO325.out).2.2 | (with_reducible refine Kd.C_alloc ?_ _) | (with_reducible refine Kd.C_drewN ?_ _) | (with_reducible refine Kd.C_drew ?_))); (case side4 => exact (Kd.S_reads' HO325.out).2.1); rintro e w41 ⟨rfl, hb⟩; replace HO305 := Aside0.mk (Kd.S_below (zS HO305) hb); replace HO308 := Aside0.mk (Kd.S_below (zS HO308) hb); replace HO322 := Aside0.mk (Kd.S_below (zS HO322) hb); replace HO325 := Aside0.mk (Kd.S_below (zS HO325) hb); replace HB := bS HB hb; (try clear hb)))
     go_meet
     case rel => exact ⟨_, (!t326), zF, H', ⟨by first | omega | exact Nat.le_refl _⟩, ⟨by (with_reducible repeat (first | apply Kd.S_alloc | apply Kd.S_drewN | apply Kd.S_drew)); exact Kd.S_mono HO305.out (fun _ hk => hk.1.1.2)⟩, ⟨by (with_reducible repeat (first | apply Kd.S_alloc | apply Kd.S_drewN | apply Kd.S_drew)); exact Kd.S_mono HO308.out (fun _ hk => hk.1.1.2)⟩, ⟨zB HB⟩⟩
   ·replace c13 := Bool.eq_false_iff.mpr c13
    subst c13
    have H1 : (laws_FnGrease.j0 k l0 t302 t306 t309 true) = some r := by rw [if_neg (show ¬ (false = true) by decide)] at H; exact H
    clear H
    have H := H1
    clear H1
    have H' := Aside0.mk H
    clear H
    go_wp2_with (first | ((with_reducible refine gate_callee (f := 15) rfl ?_); refine goesL_ (some 23) rfl rfl Try.func15 (by kernel_rfl) rfl #[.int .i64 t309] rfl zG ?_; (with_reducible refine (impl_IsReserved.calls t309 false _ A12.out).mono ?_); rintro e w' ⟨rfl, ⟨nd, rfl⟩⟩; refine ⟨_, rfl, ?_⟩))
    go_meet
    case rel => exact ⟨_, (true), zF, H', ⟨by first | omega | exact Nat.le_refl _⟩, ⟨by (with_reducible repeat (first | apply Kd.S_alloc | apply Kd.S_drewN | apply Kd.S_drew)); exact Kd.S_mono HO305.out (fun _ hk => hk.2)⟩, ⟨by (with_reducible repeat (first | apply Kd.S_alloc | apply Kd.S_drewN | apply Kd.S_drew)); exact Kd.S_mono HO308.out (fun _ hk => hk.2)⟩, ⟨zB HB⟩⟩
  case rest =>
   clear HC7
   try clear c1
   try clear p2
   try clear c3
   try clear c4
   try clear c8
   try clear c12
   try clear c13
   try clear c14
   try clear c15
   try clear c17
   obtain ⟨kq, x41_6, rfl, HA, HJ6, HO_3, HO_5, HB⟩ := hcut
   cases kq with
   | zero => exact absurd HA.out (by simp [laws_FnGrease.j0])
   | succ kj6 =>
    have H := HA.out
    clear HA
    simp only [laws_FnGrease.j0] at H
    by_cases c42 : x41_6 = true
    ·subst c42
     have H1 : (some false) = some r := by rw [if_pos rfl] at H; exact H
     clear H
     have H := H1
     clear H1
     exact absurd H (by simp [ht_])
    ·replace c42 := Bool.eq_false_iff.mpr c42
     subst c42
     have H1 : ((some (([1, 2, 3, 40, 200] : List Int) : List Int)).bind fun y327 => ((impl_KnownOf.f kj6 t306 y327).bind fun t330 => ((impl_KnownOf.f kj6 t302 y327).bind fun t333 => ((impl_EqualExts.f kj6 t330 t333).bind fun t336 => (if t336 = true then ((impl_AreExts.f kj6 t302).bind fun t337 => (if t337 = true then (if (t302.length : Int) < 6 then ((impl_ExtOf.f t306 t309).bind fun t338 => (laws_FnGrease.j1 kj6 l0 (decide (t338 < 0)))) else (laws_FnGrease.j1 kj6 l0 false)) else (laws_FnGrease.j1 kj6 l0 false))) else (some false)))))) = some r := by rw [if_neg (show ¬ (false = true) by decide)] at H; exact H
     clear H
     have H := H1
     clear H1
     obtain ⟨y327, hy327⟩ : ∃ y_ : List Int, y_ = (([1, 2, 3, 40, 200] : List Int)) := ⟨_, rfl⟩
     replace H : ((impl_KnownOf.f kj6 t306 y327).bind fun t330 => ((impl_KnownOf.f kj6 t302 y327).bind fun t333 => ((impl_EqualExts.f kj6 t330 t333).bind fun t336 => (if t336 = true then ((impl_AreExts.f kj6 t302).bind fun t337 => (if t337 = true then (if (t302.length : Int) < 6 then ((impl_ExtOf.f t306 t309).bind fun t338 => (laws_FnGrease.j1 kj6 l0 (decide (t338 < 0)))) else (laws_FnGrease.j1 kj6 l0 false)) else (laws_FnGrease.j1 kj6 l0 false))) else (some false))))) = some r := by first | (rw [hy327]; with_reducible exact H) | (have H2_ := (Option.bind_some _ _).symm.trans H; rw [hy327]; with_reducible exact H2_) | (have H2_ := (Option.bind_some _ _).symm.trans H; with_reducible exact H2_) | with_reducible exact H | (rw [hy327]; exact H) | exact H
     have Ny327 := Aside0.mk hy327
     clear hy327
     obtain ⟨t330, A43, H⟩ := bindS H
     obtain ⟨t333, A44, H⟩ := bindS H
     obtain ⟨t336, A45, H⟩ := bindS H
     by_cases c46 : t336 = true
     ·subst c46
      have H1 : ((impl_AreExts.f kj6 t302).bind fun t337 => (if t337 = true then (if (t302.length : Int) < 6 then ((impl_ExtOf.f t306 t309).bind fun t338 => (laws_FnGrease.j1 kj6 l0 (decide (t338 < 0)))) else (laws_FnGrease.j1 kj6 l0 false)) else (laws_FnGrease.j1 kj6 l0 false))) = some r := by rw [if_pos rfl] at H; exact H
      clear H
      have H := H1
      clear H1
      have HC47 := Aside0.mk H
      clear H
      go_upto_region 11 with (first | ((with_reducible refine gate_dst (N := 42) rfl ?_); (try (refine gate_guard (by rfl) ?_; dsimp only)); refine Kd.R_lit (Kd.int .i64) _ 3 ?hg (N := 42) ?hd (xs := ([1, 2, 3, 40, 200] : List Int)) (inner := [.int .i64 1, .int .i64 2, .int .i64 3, .int .i64 40, .int .i64 200]) (ok := fun _ => True) (okp := fun _ => True) ?hr ?hp (fun _ hk => hk) trivial (Below.refl _ _) (Nat.le_refl _) (by simp) ?_; (case hd => rfl); (case hg => rfl); (case hr => first | (go_simp; done) | (go_simp; rfl)); (case hp => exact (Reps.one (show Kd.M (Kd.int .i64) _ _ _ 1 [.int .i64 1] from rfl) (Reps.one (show Kd.M (Kd.int .i64) _ _ _ 2 [.int .i64 2] from rfl) (Reps.one (show Kd.M (Kd.int .i64) _ _ _ 3 [.int .i64 3] from rfl) (Reps.one (show Kd.M (Kd.int .i64) _ _ _ 40 [.int .i64 40] from rfl) (Reps.one (show Kd.M (Kd.int .i64) _ _ _ 200 [.int .i64 200] from rfl) (Reps.none _ _))))))); intro v328 w48 ho49 hb hg_ hnew_; clear hg_ hnew_; (first | rw [← Ny327.out] at ho49 | (simp only [Int.reduceToNat] at ho49; rw [← Ny327.out] at ho49)); replace HO_3 := Aside0.mk (Kd.S_elder' (zS HO_3) (Kd.R_base ho49) hb); replace HO_5 := Aside0.mk (Kd.S_elder' (zS HO_5) (Kd.R_base ho49) hb); have HO329 := Aside0.mk (Kd.R_lower ho49 (below_size (zB HB))); replace HB := bS HB hb; clear hb ho49; obtain ⟨Ao50, co50, eo50⟩ := Kd.S_slice HO_5.out; subst eo50; obtain ⟨Ao51, co51, eo51⟩ := Kd.R_slice HO329.out; subst eo51) | ((with_reducible refine gate_callee (f := 19) rfl ?_); refine goesL_ (some 45) rfl rfl Try.func19 (by kernel_rfl) rfl #[.slice Ao50 t306.length co50, .slice Ao51 y327.length co51] rfl zG ?_; (with_reducible refine (impl_KnownOf.calls kj6 _ _ t306 _ _ y327 t330 _ ?side1 ?side2 ?side3 ?side4 A43.out).mono ?_); (case side1 => repeat (first | exact (Kd.S_reads' HO_5.out).2.2 | (with_reducible refine Kd.C_alloc ?_ _) | (with_reducible refine Kd.C_drewN ?_ _) | (with_reducible refine Kd.C_drew ?_))); (case side2 => exact (Kd.S_reads' HO_5.out).2.1); (case side3 => repeat (first | exact (Kd.R_reads' HO329.out).2.2 | (with_reducible refine Kd.C_alloc ?_ _) | (with_reducible refine Kd.C_drewN ?_ _) | (with_reducible refine Kd.C_drew ?_))); (case side4 => exact (Kd.R_reads' HO329.out).2.1); rintro e w52 ⟨v331, rfl, ho0, hb⟩; refine ⟨_, rfl, ?_⟩; have HO332 := Aside0.mk (Kd.S_lower (Kd.S_new' (Kd.S_new' (Kd.S_new' ho0 (Kd.S_lt (zS HO_3))) (Kd.S_lt (zS HO_5))) (Kd.R_lt (zR HO329))) (below_size (zB HB))); replace HO_3 := Aside0.mk (Kd.S_elder' (zS HO_3) (Kd.S_base ho0) hb); replace HO_5 := Aside0.mk (Kd.S_elder' (zS HO_5) (Kd.S_base ho0) hb); replace HO329 := Aside0.mk (Kd.R_below (zR HO329) hb); replace HB := bS HB hb; (try clear hb); (try clear ho0)) | ((with_reducible refine gate_callee (f := 19) rfl ?_); refine goesL_ (some 48) rfl rfl Try.func19 (by kernel_rfl) rfl #[.slice Ao9 t302.length co9, .slice Ao51 y327.length co51] rfl zG ?_; (with_reducible refine (impl_KnownOf.calls kj6 _ _ t302 _ _ y327 t333 _ ?side1 ?side2 ?side3 ?side4 A44.out).mono ?_); (case side1 => repeat (first | exact (Kd.S_reads' HO_3.out).2.2 | (with_reducible refine Kd.C_alloc ?_ _) | (with_reducible refine Kd.C_drewN ?_ _) | (with_reducible refine Kd.C_drew ?_))); (case side2 => exact (Kd.S_reads' HO_3.out).2.1); (case side3 => repeat (first | exact (Kd.R_reads' HO329.out).2.2 | (with_reducible refine Kd.C_alloc ?_ _) | (with_reducible refine Kd.C_drewN ?_ _) | (with_reducible refine Kd.C_drew ?_))); (case side4 => exact (Kd.R_reads' HO329.out).2.1); rintro e w53 ⟨v334, rfl, ho0, hb⟩; refine ⟨_, rfl, ?_⟩; have HO335 := Aside0.mk (Kd.S_lower (Kd.S_new' (Kd.S_new' (Kd.S_new' (Kd.S_new' ho0 (Kd.S_lt (zS HO_3))) (Kd.S_lt (zS HO_5))) (Kd.R_lt (zR HO329))) (Kd.S_lt (zS HO332))) (below_size (zB HB))); replace HO_3 := Aside0.mk (Kd.S_elder' (zS HO_3) (Kd.S_base ho0) hb); replace HO_5 := Aside0.mk (Kd.S_elder' (zS HO_5) (Kd.S_base ho0) hb); replace HO329 := Aside0.mk (Kd.R_below (zR HO329) hb); replace HO332 := Aside0.mk (Kd.S_elder' (zS HO332) (Kd.S_base ho0) hb); replace HB := bS HB hb; (try clear hb); (try clear ho0); obtain ⟨Ao54, co54, eo54⟩ := Kd.S_slice HO332.out; subst eo54; obtain ⟨Ao55, co55, eo55⟩ := Kd.S_slice HO335.out; subst eo55) | ((with_reducible refine gate_callee (f := 17) rfl ?_); refine goesL_ (some 49) rfl rfl Try.func17 (by kernel_rfl) rfl #[.slice Ao54 t330.length co54, .slice Ao55 t333.length co55] rfl zG ?_; (with_reducible refine (impl_EqualExts.calls kj6 _ _ t330 _ _ t333 true _ ?side1 ?side2 ?side3 ?side4 A45.out).mono ?_); (case side1 => repeat (first | exact (Kd.S_reads' HO332.out).2.2 | (with_reducible refine Kd.C_alloc ?_ _) | (with_reducible refine Kd.C_drewN ?_ _) | (with_reducible refine Kd.C_drew ?_))); (case side2 => exact (Kd.S_reads' HO332.out).2.1); (case side3 => repeat (first | exact (Kd.S_reads' HO335.out).2.2 | (with_reducible refine Kd.C_alloc ?_ _) | (with_reducible refine Kd.C_drewN ?_ _) | (with_reducible refine Kd.C_drew ?_))); (case side4 => exact (Kd.S_reads' HO335.out).2.1); rintro e w56 ⟨rfl, hb⟩; refine ⟨_, rfl, ?_⟩; replace HO_3 := Aside0.mk (Kd.S_below (zS HO_3) hb); replace HO_5 := Aside0.mk (Kd.S_below (zS HO_5) hb); replace HO329 := Aside0.mk (Kd.R_below (zR HO329) hb); replace HO332 := Aside0.mk (Kd.S_below (zS HO332) hb); replace HO335 := Aside0.mk (Kd.S_below (zS HO335) hb); replace HB := bS HB hb; (try clear hb)))
      (try simp only [Act.put, List.setIfInBounds_toArray, List.set_cons_zero, List.set_cons_succ])
      go_cut [63] (fun v63 wc => ∃ (kq : Nat) (x63_46 : Bool), v63 = .bool x63_46 ∧ Aside0 (laws_FnGrease.j1 kq l0 x63_46 = some r) ∧ Aside0 (kq ≤ kj6) ∧ Aside0 (Below w.heap.size w wc))
      case first =>
       have H := HC47.out
       clear HC47
       obtain ⟨t337, A57, H⟩ := bindS H
       by_cases c58 : t337 = true
       ·subst c58
        have H1 : (if (t302.length : Int) < 6 then ((impl_ExtOf.f t306 t309).bind fun t338 => (laws_FnGrease.j1 kj6 l0 (decide (t338 < 0)))) else (laws_FnGrease.j1 kj6 l0 false)) = some r := by rw [if_pos rfl] at H; exact H
        clear H
        have H := H1
        clear H1
        by_cases c59 : (t302.length : Int) < 6
        ·rw [if_pos c59] at H
         have c59b0 : decide ((t302.length : Int) < 6) = true := decide_eq_true c59
         have c59b1 : decide (t302.length < 6) = true := decide_eq_true (by omega)
         clear c59
         (first | rw [c59b0] | (simp only [i64_w, i32_w]; rw [c59b0]) | skip)
         obtain ⟨t338, A60, H⟩ := bindS H
         have H' := Aside0.mk H
         clear H
         go_wp2_with (first | ((with_reducible refine gate_callee (f := 16) rfl ?_); refine goesL_ (some 52) rfl rfl Try.func16 (by kernel_rfl) rfl #[.slice Ao9 t302.length co9] rfl zG ?_; (with_reducible refine (impl_AreExts.calls kj6 _ _ t302 true _ ?side1 ?side2 A57.out).mono ?_); (case side1 => repeat (first | exact (Kd.S_reads' HO_3.out).2.2 | (with_reducible refine Kd.C_alloc ?_ _) | (with_reducible refine Kd.C_drewN ?_ _) | (with_reducible refine Kd.C_drew ?_))); (case side2 => exact (Kd.S_reads' HO_3.out).2.1); rintro e w61 ⟨rfl, hb⟩; refine ⟨_, rfl, ?_⟩; replace HO_3 := Aside0.mk (Kd.S_below (zS HO_3) hb); replace HO_5 := Aside0.mk (Kd.S_below (zS HO_5) hb); replace HO329 := Aside0.mk (Kd.R_below (zR HO329) hb); replace HO332 := Aside0.mk (Kd.S_below (zS HO332) hb); replace HO335 := Aside0.mk (Kd.S_below (zS HO335) hb); replace HB := bS HB hb; (try clear hb)) | (go_at_call 20; (with_reducible refine (impl_ExtOf.calls _ _ t306 t309 t338 _ ?side1 ?side2 A60.out).mono ?_); (case side1 => repeat (first | exact (Kd.S_reads' HO_5.out).2.2 | (with_reducible refine Kd.C_alloc ?_ _) | (with_reducible refine Kd.C_drewN ?_ _) | (with_reducible refine Kd.C_drew ?_))); (case side2 => exact (Kd.S_reads' HO_5.out).2.1); rintro e w62 ⟨rfl, hb⟩; replace HO_3 := Aside0.mk (Kd.S_below (zS HO_3) hb); replace HO_5 := Aside0.mk (Kd.S_below (zS HO_5) hb); replace HO329 := Aside0.mk (Kd.R_below (zR HO329) hb); replace HO332 := Aside0.mk (Kd.S_below (zS HO332) hb); replace HO335 := Aside0.mk (Kd.S_below (zS HO335) hb); replace HB := bS HB hb; (try clear hb)))
         go_meet
         case rel => exact ⟨_, (decide (t338 < 0)), zF, H', ⟨by have := HJ6.out; first | omega | exact Nat.le_refl _⟩, ⟨zB HB⟩⟩
        ·rw [if_neg c59] at H
         have c59b0 : decide ((t302.length : Int) < 6) = false := decide_eq_false c59
         have c59b1 : decide (t302.length < 6) = false := decide_eq_false (by omega)
         clear c59
         (first | rw [c59b0] | (simp only [i64_w, i32_w]; rw [c59b0]) | skip)
         have H' := Aside0.mk H
         clear H
         go_wp2_with (first | ((with_reducible refine gate_callee (f := 16) rfl ?_); refine goesL_ (some 52) rfl rfl Try.func16 (by kernel_rfl) rfl #[.slice Ao9 t302.length co9] rfl zG ?_; (with_reducible refine (impl_AreExts.calls kj6 _ _ t302 true _ ?side1 ?side2 A57.out).mono ?_); (case side1 => repeat (first | exact (Kd.S_reads' HO_3.out).2.2 | (with_reducible refine Kd.C_alloc ?_ _) | (with_reducible refine Kd.C_drewN ?_ _) | (with_reducible refine Kd.C_drew ?_))); (case side2 => exact (Kd.S_reads' HO_3.out).2.1); rintro e w63 ⟨rfl, hb⟩; refine ⟨_, rfl, ?_⟩; replace HO_3 := Aside0.mk (Kd.S_below (zS HO_3) hb); replace HO_5 := Aside0.mk (Kd.S_below (zS HO_5) hb); replace HO329 := Aside0.mk (Kd.R_below (zR HO329) hb); replace HO332 := Aside0.mk (Kd.S_below (zS HO332) hb); replace HO335 := Aside0.mk (Kd.S_below (zS HO335) hb); replace HB := bS HB hb; (try clear hb)))
         go_meet
         case rel => exact ⟨_, (false), zF, H', ⟨by have := HJ6.out; first | omega | exact Nat.le_refl _⟩, ⟨zB HB⟩⟩
       ·replace c58 := Bool.eq_false_iff.mpr c58
        subst c58
        have H1 : (laws_FnGrease.j1 kj6 l0 false) = some r := by rw [if_neg (show ¬ (false = true) by decide)] at H; exact H
        clear H
        have H := H1
        clear H1
        have H' := Aside0.mk H
        clear H
        go_wp2_with (first | ((with_reducible refine gate_callee (f := 16) rfl ?_); refine goesL_ (some 52) rfl rfl Try.func16 (by kernel_rfl) rfl #[.slice Ao9 t302.length co9] rfl zG ?_; (with_reducible refine (impl_AreExts.calls kj6 _ _ t302 false _ ?side1 ?side2 A57.out).mono ?_); (case side1 => repeat (first | exact (Kd.S_reads' HO_3.out).2.2 | (with_reducible refine Kd.C_alloc ?_ _) | (with_reducible refine Kd.C_drewN ?_ _) | (with_reducible refine Kd.C_drew ?_))); (case side2 => exact (Kd.S_reads' HO_3.out).2.1); rintro e w64 ⟨rfl, hb⟩; refine ⟨_, rfl, ?_⟩; replace HO_3 := Aside0.mk (Kd.S_below (zS HO_3) hb); replace HO_5 := Aside0.mk (Kd.S_below (zS HO_5) hb); replace HO329 := Aside0.mk (Kd.R_below (zR HO329) hb); replace HO332 := Aside0.mk (Kd.S_below (zS HO332) hb); replace HO335 := Aside0.mk (Kd.S_below (zS HO335) hb); replace HB := bS HB hb; (try clear hb)))
        go_meet
        case rel => exact ⟨_, (false), zF, H', ⟨by have := HJ6.out; first | omega | exact Nat.le_refl _⟩, ⟨zB HB⟩⟩
      case rest =>
       clear HC47
       try clear c1
       try clear p2
       try clear c3
       try clear c4
       try clear c5
       try clear c8
       try clear c12
       try clear c13
       try clear c14
       try clear c15
       try clear c16
       try clear c17
       try clear c19
       try clear c42
       try clear c46
       try clear c58
       try clear c59
       try clear c59b0
       try clear c59b1
       try clear p2
       obtain ⟨kq, x63_46, rfl, HA, HJ46, HB⟩ := hcut
       cases kq with
       | zero => exact absurd HA.out (by simp [laws_FnGrease.j1])
       | succ kj46 =>
        have H := HA.out
        clear HA
        simp only [laws_FnGrease.j1] at H
        by_cases c65 : x63_46 = true
        ·subst c65
         have H1 : (some false) = some r := by rw [if_pos rfl] at H; exact H
         clear H
         have H := H1
         clear H1
         exact absurd H (by simp [ht_])
        ·replace c65 := Bool.eq_false_iff.mpr c65
         subst c65
         have H1 : ((spec_DrawStripGrease.f kj46 l0).bind fun t339 => ((impl_StripGrease.f kj46 t339).bind fun t342 => ((impl_HasGrease.f kj46 t339).bind fun t345 => ((impl_TagsOf.f kj46 t339).bind fun t346 => ((impl_IsHardened.f t346).bind fun t349 => (if (t345 == t349) = true then ((impl_HasGrease.f kj46 t342).bind fun t350 => (if t350 = true then (some false) else ((impl_StripGrease.f kj46 t342).bind fun t351 => ((impl_EqualExts.f kj46 t351 t342).bind fun t354 => (some t354))))) else (some false))))))) = some r := by rw [if_neg (show ¬ (false = true) by decide)] at H; exact H
         clear H
         have H := H1
         clear H1
         obtain ⟨t339, A66, H⟩ := bindS H
         obtain ⟨t342, A67, H⟩ := bindS H
         obtain ⟨t345, A68, H⟩ := bindS H
         obtain ⟨t346, A69, H⟩ := bindS H
         obtain ⟨t349, A70, H⟩ := bindS H
         by_cases c71 : (t345 == t349) = true
         ·rw [if_pos c71] at H
          have c71b0 : (t345 == t349) = true := c71
          (try (have c71b1 : decide (t345 = t349) = true := by simpa using c71))
          (try (have c71b2 : (t345 == t349) = true := by simpa using c71))
          clear c71
          obtain ⟨t350, A72, H⟩ := bindS H
          by_cases c73 : t350 = true
          ·subst c73
           have H1 : (some false) = some r := by rw [if_pos rfl] at H; exact H
           clear H
           have H := H1
           clear H1
           exact absurd H (by simp [ht_])
          ·replace c73 := Bool.eq_false_iff.mpr c73
           subst c73
           have H1 : ((impl_StripGrease.f kj46 t342).bind fun t351 => ((impl_EqualExts.f kj46 t351 t342).bind fun t354 => (some t354))) = some r := by rw [if_neg (show ¬ (false = true) by decide)] at H; exact H
           clear H
           have H := H1
           clear H1
           obtain ⟨t351, A74, H⟩ := bindS H
           obtain ⟨t354, A75, H⟩ := bindS H
           obtain rfl := Option.some.inj H
           go_wp2_with (first | ((with_reducible refine gate_callee (f := 21) rfl ?_); refine goesL_ (some 65) rfl rfl Try.func21 (by kernel_rfl) rfl #[.slice A0 l0.length c0] rfl zG ?_; (with_reducible refine (spec_DrawStripGrease.calls kj46 _ _ l0 t339 _ ?side1 ?side2 A66.out).mono ?_); (case side1 => exact cS HR0 HB); (case side2 => exact HC0.out); rintro e w76 ⟨v340, rfl, ho0, hb⟩; refine ⟨_, rfl, ?_⟩; have HO341 := Aside0.mk (Kd.S_lower ho0 (below_size (zB HB))); replace HB := bS HB hb; (try clear hb); (try clear ho0); obtain ⟨Ao77, co77, eo77⟩ := Kd.S_slice HO341.out; subst eo77) | ((with_reducible refine gate_callee (f := 18) rfl ?_); refine goesL_ (some 67) rfl rfl Try.func18 (by kernel_rfl) rfl #[.slice Ao77 t339.length co77] rfl zG ?_; (with_reducible refine (impl_StripGrease.calls kj46 _ _ t339 t342 _ ?side1 ?side2 A67.out).mono ?_); (case side1 => repeat (first | exact (Kd.S_reads' HO341.out).2.2 | (with_reducible refine Kd.C_alloc ?_ _) | (with_reducible refine Kd.C_drewN ?_ _) | (with_reducible refine Kd.C_drew ?_))); (case side2 => exact (Kd.S_reads' HO341.out).2.1); rintro e w78 ⟨v343, rfl, ho0, hb⟩; refine ⟨_, rfl, ?_⟩; have HO344 := Aside0.mk (Kd.S_lower (Kd.S_new' ho0 (Kd.S_lt (zS HO341))) (below_size (zB HB))); replace HO341 := Aside0.mk (Kd.S_elder' (zS HO341) (Kd.S_base ho0) hb); replace HB := bS HB hb; (try clear hb); (try clear ho0)) | ((with_reducible refine gate_callee (f := 22) rfl ?_); refine goesL_ (some 69) rfl rfl Try.func22 (by kernel_rfl) rfl #[.slice Ao77 t339.length co77] rfl zG ?_; (with_reducible refine (impl_HasGrease.calls kj46 _ _ t339 t345 _ ?side1 ?side2 A68.out).mono ?_); (case side1 => repeat (first | exact (Kd.S_reads' HO341.out).2.2 | (with_reducible refine Kd.C_alloc ?_ _) | (with_reducible refine Kd.C_drewN ?_ _) | (with_reducible refine Kd.C_drew ?_))); (case side2 => exact (Kd.S_reads' HO341.out).2.1); rintro e w79 ⟨rfl, hb⟩; refine ⟨_, rfl, ?_⟩; replace HO341 := Aside0.mk (Kd.S_below (zS HO341) hb); replace HO344 := Aside0.mk (Kd.S_below (zS HO344) hb); replace HB := bS HB hb; (try clear hb)) | ((with_reducible refine gate_callee (f := 24) rfl ?_); refine goesL_ (some 71) rfl rfl Try.func24 (by kernel_rfl) rfl #[.slice Ao77 t339.length co77] rfl zG ?_; (with_reducible refine (impl_TagsOf.calls kj46 _ _ t339 t346 _ ?side1 ?side2 A69.out).mono ?_); (case side1 => repeat (first | exact (Kd.S_reads' HO341.out).2.2 | (with_reducible refine Kd.C_alloc ?_ _) | (with_reducible refine Kd.C_drewN ?_ _) | (with_reducible refine Kd.C_drew ?_))); (case side2 => exact (Kd.S_reads' HO341.out).2.1); rintro e w80 ⟨v347, rfl, ho0, hb⟩; refine ⟨_, rfl, ?_⟩; replace HO341 := Aside0.mk (Kd.S_elder' (zS HO341) (Kd.R_base ho0) hb); replace HO344 := Aside0.mk (Kd.S_elder' (zS HO344) (Kd.R_base ho0) hb); have HO348 := Aside0.mk (Kd.R_lower ho0 (below_size (zB HB))); replace HB := bS HB hb; (try clear hb); (try clear ho0); obtain ⟨Ao81, co81, eo81⟩ := Kd.R_slice HO348.out; subst eo81) | ((with_reducible refine gate_callee (f := 23) rfl ?_); refine goesL_ (some 72) rfl rfl Try.func23 (by kernel_rfl) rfl #[.slice Ao81 t346.length co81] rfl zG ?_; (with_reducible refine (impl_IsHardened.calls _ _ t346 t349 _ ?side1 ?side2 A70.out).mono ?_); (case side1 => repeat (first | exact (Kd.R_reads' HO348.out).2.2 | (with_reducible refine Kd.C_alloc ?_ _) | (with_reducible refine Kd.C_drewN ?_ _) | (with_reducible refine Kd.C_drew ?_))); (case side2 => exact (Kd.R_reads' HO348.out).2.1); rintro e w82 ⟨rfl, hb⟩; refine ⟨_, rfl, ?_⟩; replace HO341 := Aside0.mk (Kd.S_below (zS HO341) hb); replace HO344 := Aside0.mk (Kd.S_below (zS HO344) hb); replace HO348 := Aside0.mk (Kd.R_below (zR HO348) hb); replace HB := bS HB hb; (try clear hb); obtain ⟨Ao83, co83, eo83⟩ := Kd.S_slice HO344.out; subst eo83) | (go_at_call 22; (with_reducible refine (impl_HasGrease.calls kj46 _ _ t342 false _ ?side1 ?side2 A72.out).mono ?_); (case side1 => repeat (first | exact (Kd.S_reads' HO344.out).2.2 | (with_reducible refine Kd.C_alloc ?_ _) | (with_reducible refine Kd.C_drewN ?_ _) | (with_reducible refine Kd.C_drew ?_))); (case side2 => exact (Kd.S_reads' HO344.out).2.1); rintro e w84 ⟨rfl, hb⟩; replace HO341 := Aside0.mk (Kd.S_below (zS HO341) hb); replace HO344 := Aside0.mk (Kd.S_below (zS HO344) hb); replace HO348 := Aside0.mk (Kd.R_below (zR HO348) hb); replace HB := bS HB hb; (try clear hb)) | (go_at_call 18; (with_reducible refine (impl_StripGrease.calls kj46 _ _ t342 t351 _ ?side1 ?side2 A74.out).mono ?_); (case side1 => repeat (first | exact (Kd.S_reads' HO344.out).2.2 | (with_reducible refine Kd.C_alloc ?_ _) | (with_reducible refine Kd.C_drewN ?_ _) | (with_reducible refine Kd.C_drew ?_))); (case side2 => exact (Kd.S_reads' HO344.out).2.1); rintro e w85 ⟨v352, rfl, ho0, hb⟩; have HO353 := Aside0.mk (Kd.S_lower (Kd.S_new' (Kd.S_new' (Kd.S_new' ho0 (Kd.S_lt (zS HO341))) (Kd.S_lt (zS HO344))) (Kd.R_lt (zR HO348))) (below_size (zB HB))); replace HO341 := Aside0.mk (Kd.S_elder' (zS HO341) (Kd.S_base ho0) hb); replace HO344 := Aside0.mk (Kd.S_elder' (zS HO344) (Kd.S_base ho0) hb); replace HO348 := Aside0.mk (Kd.R_below (zR HO348) hb); replace HB := bS HB hb; (try clear hb); (try clear ho0); obtain ⟨Ao86, co86, eo86⟩ := Kd.S_slice HO353.out; subst eo86) | (go_at_call 17; (with_reducible refine (impl_EqualExts.calls kj46 _ _ t351 _ _ t342 t354 _ ?side1 ?side2 ?side3 ?side4 A75.out).mono ?_); (case side1 => repeat (first | exact (Kd.S_reads' HO353.out).2.2 | (with_reducible refine Kd.C_alloc ?_ _) | (with_reducible refine Kd.C_drewN ?_ _) | (with_reducible refine Kd.C_drew ?_))); (case side2 => exact (Kd.S_reads' HO353.out).2.1); (case side3 => repeat (first | exact (Kd.S_reads' HO344.out).2.2 | (with_reducible refine Kd.C_alloc ?_ _) | (with_reducible refine Kd.C_drewN ?_ _) | (with_reducible refine Kd.C_drew ?_))); (case side4 => exact (Kd.S_reads' HO344.out).2.1); rintro e w87 ⟨rfl, hb⟩; replace HO341 := Aside0.mk (Kd.S_below (zS HO341) hb); replace HO344 := Aside0.mk (Kd.S_below (zS HO344) hb); replace HO348 := Aside0.mk (Kd.R_below (zR HO348) hb); replace HO353 := Aside0.mk (Kd.S_below (zS HO353) hb); replace HB := bS HB hb; (try clear hb)))
           go_ret
           exact ⟨zE, zB HB⟩
         ·rw [if_neg c71] at H
          have c71b0 : (t345 == t349) = false := by simpa using c71
          (try (have c71b1 : decide (t345 = t349) = false := by simpa using c71))
          (try (have c71b2 : (t345 == t349) = false := by simpa using c71))
          (try (have c71b3 : ¬ (t345 = t349) := by simpa using c71))
          clear c71
          exact absurd H (by simp [ht_])
     ·replace c46 := Bool.eq_false_iff.mpr c46
      subst c46
      have H1 : (some false) = some r := by rw [if_neg (show ¬ (false = true) by decide)] at H; exact H
      clear H
      have H := H1
      clear H1
      exact absurd H (by simp [ht_])

/-- THE ONE PURE STATEMENT of laws_FnGrease: yours. -/
def laws_FnGrease.Pure : Prop := ∀ (l0 : List Int), l0.length ≤ maxLen → l0.length * 1 ≤ 140737488351232 → (∀ x ∈ l0, (Lit.int .u8 x).wf = true) → ∃ k, laws_FnGrease.f k l0 = some true
theorem laws_FnGrease.walk (P : laws_FnGrease.Pure) (a0 : Option Addr) (len0 cap0 : Nat) (z0 : List Int) (w : World) (w0 : (a0 = none ∧ len0 = 0 ∧ cap0 = 0 ∧ z0 = []) ∨ ∃ x, a0 = some x ∧ len0 ≤ cap0 ∧ cap0 ≤ maxLen ∧ z0.length = cap0 ∧ (∀ i, i < z0.length → w.cell? (x.add i) = some (.int .u8 (z0.getD i 0))) ∧ ∀ n ∈ z0, (Lit.int .u8 n).wf = true) (y0 : len0 * 1 ≤ 140737488351232) :
  Calls Try.prog 4 #[.slice a0 len0 cap0] w fun e w' => e = .returned (.bool true) ∧ Below w.heap.size w w' := by
 obtain ⟨l0, rfl, hr0, hm0, hw0, hc0⟩ := ReadsInt.ofRowC w0
 obtain ⟨k, h⟩ := P l0 hm0 y0 hw0
 refine (laws_FnGrease.calls k _ _ l0 true w (Kd.C_of_reads (d := (0 : Int)) (h1 := fun _ => rfl) hr0) hc0 rfl h).mono ?_
 rintro e w' ⟨rfl, hd⟩
 exact ⟨rfl, hd⟩

end Go.Proofs.Ytbahcefcoplmpaa.PFnGrease
