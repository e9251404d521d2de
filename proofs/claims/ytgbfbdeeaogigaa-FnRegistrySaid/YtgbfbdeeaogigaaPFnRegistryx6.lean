-- WRITTEN by pp.py, this session's own wrapper around the print; not trusted: Lean checks it
import Derived.Test.YtgbfbdeeaogigaaPFnRegistryx0
import Derived.Test.YtgbfbdeeaogigaaPFnRegistryx1
import Derived.Test.YtgbfbdeeaogigaaPFnRegistryx2
import Derived.Test.YtgbfbdeeaogigaaPFnRegistryx3
import Derived.Test.YtgbfbdeeaogigaaPFnRegistryx4
import Derived.Test.YtgbfbdeeaogigaaPFnRegistryx5
namespace Go.Proofs.Ytgbfbdeeaogigaa.PFnRegistry
open Go.RowKit Go.Proofs.Ytgbfbdeeaogigaa.Hw Go.Proofs.YtgbfbdeeaogigaaW.PrintWords Go.Proofs.YtgbfbdeeaogigaaW.PrintLast Go.Proofs.YtgbfbdeeaogigaaW.PrintMore
attribute [local go_sem] max2_int min2_int max_two min_two max_three min_three max_four min_four   -- for this text's walks alone
set_option linter.unusedVariables false
set_option linter.unusedSimpArgs false
set_option linter.unusedSectionVars false

/-! ### spec_l10Any: function 34 -/
def spec_l10Any.l0 : Nat → List (S43) → List Int → Int → Int → Option ((List (S43)) × Int × Int)
 | 0, _, _, _, _ => none
 | k + 1, x3, x1000, x1001, x1002 => if (x3.length : Int) < 12 then ((spec_AssignTag.f k x3 1).bind fun bt294 => ((spec_IsRegistry.f k bt294.1).bind fun t299 => (if t299 = true then (spec_l10Any.l0 k bt294.1 x1000 x1001 x1002) else (some (bt294.1, x1001, x1002))))) else (some (x3, x1001, x1002))
def spec_l10Any.f (k : Nat) (s0_0 : List Int) (s0_1 : Int) (s0_2 : Int) : Option ((List (S43)) × Int × Int) := (spec_l10Draw.f k s0_0 s0_1 s0_2).bind fun bt269 => (if (bt269.1.length : Int) = 0 then (some (bt269.1, bt269.2.1, bt269.2.2)) else ((spec_l1Below.f s0_0 bt269.2.1 bt269.2.2 (bt269.1.length : Int)).bind fun bt274 => ((spec_l1Below.f s0_0 bt274.2.1 bt274.2.2 9).bind fun bt277 => (if bt277.1 = 0 then ((spec_l1Int.f s0_0 bt277.2.1 bt277.2.2 (([(-1), 10, 26, 255, 256] : List Int))).bind fun bt283 => (if 0 ≤ bt274.1 then (if bt274.1 < (bt269.1.length : Int) then (some ((bt269.1.set (bt274.1 : Int).toNat (⟨bt283.1, (rd_T43 bt269.1 bt274.1).f1, (rd_T43 bt269.1 bt274.1).f2⟩ : S43)), bt283.2.1, bt283.2.2)) else (none)) else (none))) else (if bt277.1 = 1 then ((spec_l1Int.f s0_0 bt277.2.1 bt277.2.2 (([(-1), 9, 10] : List Int))).bind fun bt290 => (if 0 ≤ bt274.1 then (if bt274.1 < (bt269.1.length : Int) then (some ((bt269.1.set (bt274.1 : Int).toNat (⟨(rd_T43 bt269.1 bt274.1).f0, bt290.1, (rd_T43 bt269.1 bt274.1).f2⟩ : S43)), bt290.2.1, bt290.2.2)) else (none)) else (none))) else (if bt277.1 = 2 then (spec_l10Any.l0 k bt269.1 s0_0 bt277.2.1 bt277.2.2) else (some (bt269.1, bt277.2.1, bt277.2.2))))))))
theorem spec_l10Any.mono_l : ∀ k, (∀ y0 y1 y2 y3, LeO (spec_l10Any.l0 k y0 y1 y2 y3) (spec_l10Any.l0 (k + 1) y0 y1 y2 y3))
 | 0 => fun _ _ _ _ r h => by simp [spec_l10Any.l0] at h
 | k + 1 => by
  have ih0 := spec_l10Any.mono_l k
  ·intro y0 y1 y2 y3
   unfold spec_l10Any.l0
   repeat' first
   | (with_reducible exact ih0 _ _ _ _)
   | (with_reducible exact spec_AssignTag.mono _ _ _)
   | (with_reducible exact spec_IsRegistry.mono _ _)
   | (with_reducible exact spec_l10Draw.mono _ _ _ _)
   | (with_reducible exact LeO.refl _)
   | (with_reducible exact LeO.none _)
   | (with_reducible refine LeO.ite ?_ ?_)
   | (with_reducible refine LeO.bind ?_ (fun _ => ?_))
   | exact ih0 _ _ _ _
   | exact spec_AssignTag.mono _ _ _
   | exact spec_IsRegistry.mono _ _
   | exact spec_l10Draw.mono _ _ _ _
   | exact LeO.none _
   | refine LeO.ite ?_ ?_
   | refine LeO.bind ?_ (fun _ => ?_)
theorem spec_l10Any.mono : ∀ a0 a1 a2 k, LeO (spec_l10Any.f k a0 a1 a2) (spec_l10Any.f (k + 1) a0 a1 a2) := by
 intro a0 a1 a2 k
 have ih0 := spec_l10Any.mono_l k
 unfold spec_l10Any.f
 repeat' first
   | (with_reducible exact ih0 _ _ _ _)
   | (with_reducible exact spec_AssignTag.mono _ _ _)
   | (with_reducible exact spec_IsRegistry.mono _ _)
   | (with_reducible exact spec_l10Draw.mono _ _ _ _)
   | (with_reducible exact LeO.refl _)
   | (with_reducible exact LeO.none _)
   | (with_reducible refine LeO.ite ?_ ?_)
   | (with_reducible refine LeO.bind ?_ (fun _ => ?_))
   | exact ih0 _ _ _ _
   | exact spec_AssignTag.mono _ _ _
   | exact spec_IsRegistry.mono _ _
   | exact spec_l10Draw.mono _ _ _ _
   | exact LeO.none _
   | refine LeO.ite ?_ ?_
   | refine LeO.bind ?_ (fun _ => ?_)
theorem spec_l10Any.zI63 {P Q : Prop} (h : Aside0 P) (hw : P → Q := by intro h_; repeat (first | (with_reducible first | exact h_ | apply IsS63.alloc | apply IsS63.drew | apply IsS63.drewN | apply IsS63.set_1 | apply IsS63.set_2) | exact h_)) : Q := hw h.out
set_option maxHeartbeats 8000000 in
set_option maxRecDepth 100000 in
theorem spec_l10Any.calls (k : Nat) (g : Nat) (s0_0 : List Int) (s0_1 : Int) (s0_2 : Int) (r1 : List (S43)) (r2 : Int) (r3 : Int) (w0 w : World) (hI : IsS63 w0 w g s0_0 s0_1 s0_2) (hB : Below w0.heap.size w0 w) (h : spec_l10Any.f k s0_0 s0_1 s0_2 = some (r1, r2, r3)) :
  Calls Try.prog 34 #[.pointer (some ⟨g, 0, none⟩)] w fun e w' => ∃ v0_ : Value, e = .returned (v0_) ∧ Kd.R k43 43 w' w.heap.size (fun _ => True) v0_ r1 ∧ IsS63 w0 w' g s0_0 r2 r3 ∧ Below w0.heap.size w0 w' ∧ KeepBut w w' g none := by
 have HI0 := Aside0.mk hI
 have HK := Aside0.mk (KeepBut.refl w g none)
 have HL := Aside0.mk hB.size
 clear hI
 have HW0 := Aside0.mk hB.size
 have HB := Aside0.mk hB
 clear hB
 have H : ((spec_l10Draw.f k s0_0 s0_1 s0_2).bind fun bt269 => (if (bt269.1.length : Int) = 0 then (some (bt269.1, bt269.2.1, bt269.2.2)) else ((spec_l1Below.f s0_0 bt269.2.1 bt269.2.2 (bt269.1.length : Int)).bind fun bt274 => ((spec_l1Below.f s0_0 bt274.2.1 bt274.2.2 9).bind fun bt277 => (if bt277.1 = 0 then ((spec_l1Int.f s0_0 bt277.2.1 bt277.2.2 (([(-1), 10, 26, 255, 256] : List Int))).bind fun bt283 => (if 0 ≤ bt274.1 then (if bt274.1 < (bt269.1.length : Int) then (some ((bt269.1.set (bt274.1 : Int).toNat (⟨bt283.1, (rd_T43 bt269.1 bt274.1).f1, (rd_T43 bt269.1 bt274.1).f2⟩ : S43)), bt283.2.1, bt283.2.2)) else (none)) else (none))) else (if bt277.1 = 1 then ((spec_l1Int.f s0_0 bt277.2.1 bt277.2.2 (([(-1), 9, 10] : List Int))).bind fun bt290 => (if 0 ≤ bt274.1 then (if bt274.1 < (bt269.1.length : Int) then (some ((bt269.1.set (bt274.1 : Int).toNat (⟨(rd_T43 bt269.1 bt274.1).f0, bt290.1, (rd_T43 bt269.1 bt274.1).f2⟩ : S43)), bt290.2.1, bt290.2.2)) else (none)) else (none))) else (if bt277.1 = 2 then (spec_l10Any.l0 k bt269.1 s0_0 bt277.2.1 bt277.2.2) else (some (bt269.1, bt277.2.1, bt277.2.2))))))))) = some (r1, r2, r3) := h
 clear h
 replace H := Option.bind_eq_some_iff.mp H
 obtain ⟨⟨t269, t272, t273⟩, A20, H⟩ := H
 replace H : (if (t269.length : Int) = 0 then (some (t269, t272, t273)) else ((spec_l1Below.f s0_0 t272 t273 (t269.length : Int)).bind fun bt274 => ((spec_l1Below.f s0_0 bt274.2.1 bt274.2.2 9).bind fun bt277 => (if bt277.1 = 0 then ((spec_l1Int.f s0_0 bt277.2.1 bt277.2.2 (([(-1), 10, 26, 255, 256] : List Int))).bind fun bt283 => (if 0 ≤ bt274.1 then (if bt274.1 < (t269.length : Int) then (some ((t269.set (bt274.1 : Int).toNat (⟨bt283.1, (rd_T43 t269 bt274.1).f1, (rd_T43 t269 bt274.1).f2⟩ : S43)), bt283.2.1, bt283.2.2)) else (none)) else (none))) else (if bt277.1 = 1 then ((spec_l1Int.f s0_0 bt277.2.1 bt277.2.2 (([(-1), 9, 10] : List Int))).bind fun bt290 => (if 0 ≤ bt274.1 then (if bt274.1 < (t269.length : Int) then (some ((t269.set (bt274.1 : Int).toNat (⟨(rd_T43 t269 bt274.1).f0, bt290.1, (rd_T43 t269 bt274.1).f2⟩ : S43)), bt290.2.1, bt290.2.2)) else (none)) else (none))) else (if bt277.1 = 2 then (spec_l10Any.l0 k t269 s0_0 bt277.2.1 bt277.2.2) else (some (t269, bt277.2.1, bt277.2.2)))))))) = some (r1, r2, r3) := H
 have A2 := Aside0.mk A20
 clear A20
 by_cases c3 : (t269.length : Int) = 0
 ·rw [if_pos c3] at H
  have c3b0 : ((t269.length : Int) == 0) = true := beq_iff_eq.mpr c3
  have c3b1 : ((t269.length : Int) != 0) = false := bne_eq_false_iff_eq.mpr c3
  clear c3
  simp only [Option.some.injEq, Prod.mk.injEq] at H
  obtain ⟨rfl, rfl, rfl⟩ := H
  go_enter Try.func34, Try.ntmps34
  go_wp2_with (first | ((with_reducible refine gate_callee (f := 40) rfl ?_); refine goesL_ (some 6) rfl rfl Try.func40 (by kernel_rfl) rfl #[.pointer (some ⟨g, 0, none⟩)] rfl zG ?_; (with_reducible refine (spec_l10Draw.calls k g s0_0 s0_1 s0_2 t269 t272 t273 w0 _ ?side1 ?side2 A2.out).mono ?_); (case side1 => exact spec_l10Any.zI63 HI0); (case side2 => repeat (first | (with_reducible first | exact HB.out | apply below_alloc | apply pw_below_drewN | apply below_drew1 | refine below_set ?_ (IsS63.ge HI0.out)) | exact HB.out)); rintro e w4 ⟨v270, rfl, ho0, hi, hb, hk⟩; refine ⟨_, rfl, ?_⟩; have HO271 := Aside0.mk (Kd.R_lower ho0 (keep_size (w := w) (g := g) (row := none) (zH HK))); replace HK := Aside0.mk (KeepBut.trans (zH HK) hk (.inl rfl)); replace HB := Aside0.mk (hb); replace HI0 := Aside0.mk (hi); (try clear hb); (try clear ho0); obtain ⟨Ao5, co5, eo5⟩ := Kd.R_slice HO271.out; subst eo5))
  go_ret
  exact ⟨_, zE, by (with_reducible repeat (first | apply Kd.R_alloc | apply Kd.R_drewN | apply Kd.R_drew)); exact HO271.out, spec_l10Any.zI63 HI0, by repeat (first | (with_reducible first | exact HB.out | apply below_alloc | apply pw_below_drewN | apply below_drew1 | refine below_set ?_ (IsS63.ge HI0.out)) | exact HB.out), zH HK⟩
 ·rw [if_neg c3] at H
  have c3b0 : ((t269.length : Int) == 0) = false := beq_eq_false_iff_ne.mpr c3
  have c3b1 : ((t269.length : Int) != 0) = true := bne_iff_ne.mpr c3
  have c3b2 : ¬ (t269 = []) := fun h_ => c3 (by rw [h_]; rfl)
  replace H := Option.bind_eq_some_iff.mp H
  obtain ⟨⟨t274, t275, t276⟩, A60, H⟩ := H
  replace H : ((spec_l1Below.f s0_0 t275 t276 9).bind fun bt277 => (if bt277.1 = 0 then ((spec_l1Int.f s0_0 bt277.2.1 bt277.2.2 (([(-1), 10, 26, 255, 256] : List Int))).bind fun bt283 => (if 0 ≤ t274 then (if t274 < (t269.length : Int) then (some ((t269.set (t274 : Int).toNat (⟨bt283.1, (rd_T43 t269 t274).f1, (rd_T43 t269 t274).f2⟩ : S43)), bt283.2.1, bt283.2.2)) else (none)) else (none))) else (if bt277.1 = 1 then ((spec_l1Int.f s0_0 bt277.2.1 bt277.2.2 (([(-1), 9, 10] : List Int))).bind fun bt290 => (if 0 ≤ t274 then (if t274 < (t269.length : Int) then (some ((t269.set (t274 : Int).toNat (⟨(rd_T43 t269 t274).f0, bt290.1, (rd_T43 t269 t274).f2⟩ : S43)), bt290.2.1, bt290.2.2)) else (none)) else (none))) else (if bt277.1 = 2 then (spec_l10Any.l0 k t269 s0_0 bt277.2.1 bt277.2.2) else (some (t269, bt277.2.1, bt277.2.2)))))) = some (r1, r2, r3) := H
  have A6 := Aside0.mk A60
  clear A60
  replace H := Option.bind_eq_some_iff.mp H
  obtain ⟨⟨t277, t278, t279⟩, A70, H⟩ := H
  replace H : (if t277 = 0 then ((spec_l1Int.f s0_0 t278 t279 (([(-1), 10, 26, 255, 256] : List Int))).bind fun bt283 => (if 0 ≤ t274 then (if t274 < (t269.length : Int) then (some ((t269.set (t274 : Int).toNat (⟨bt283.1, (rd_T43 t269 t274).f1, (rd_T43 t269 t274).f2⟩ : S43)), bt283.2.1, bt283.2.2)) else (none)) else (none))) else (if t277 = 1 then ((spec_l1Int.f s0_0 t278 t279 (([(-1), 9, 10] : List Int))).bind fun bt290 => (if 0 ≤ t274 then (if t274 < (t269.length : Int) then (some ((t269.set (t274 : Int).toNat (⟨(rd_T43 t269 t274).f0, bt290.1, (rd_T43 t269 t274).f2⟩ : S43)), bt290.2.1, bt290.2.2)) else (none)) else (none))) else (if t277 = 2 then (spec_l10Any.l0 k t269 s0_0 t278 t279) else (some (t269, t278, t279))))) = some (r1, r2, r3) := H
  have A7 := Aside0.mk A70
  clear A70
  by_cases c8 : t277 = 0
  ·rw [if_pos c8] at H
   have c8b0 : (t277 == 0) = true := beq_iff_eq.mpr c8
   have c8b1 : (t277 != 0) = false := bne_eq_false_iff_eq.mpr c8
   clear c8
   obtain ⟨y280, hy280⟩ : ∃ y_ : List Int, y_ = (([(-1), 10, 26, 255, 256] : List Int)) := ⟨_, rfl⟩
   replace H : ((spec_l1Int.f s0_0 t278 t279 y280).bind fun bt283 => (if 0 ≤ t274 then (if t274 < (t269.length : Int) then (some ((t269.set (t274 : Int).toNat (⟨bt283.1, (rd_T43 t269 t274).f1, (rd_T43 t269 t274).f2⟩ : S43)), bt283.2.1, bt283.2.2)) else (none)) else (none))) = some (r1, r2, r3) := by first | (rw [hy280]; with_reducible exact H) | (have H2_ := (Option.bind_some _ _).symm.trans H; rw [hy280]; with_reducible exact H2_) | (have H2_ := (Option.bind_some _ _).symm.trans H; with_reducible exact H2_) | with_reducible exact H | (rw [hy280]; exact H) | exact H
   have Ny280 := Aside0.mk hy280
   clear hy280
   replace H := Option.bind_eq_some_iff.mp H
   obtain ⟨⟨t283, t284, t285⟩, A90, H⟩ := H
   replace H : (if 0 ≤ t274 then (if t274 < (t269.length : Int) then (some ((t269.set (t274 : Int).toNat (⟨t283, (rd_T43 t269 t274).f1, (rd_T43 t269 t274).f2⟩ : S43)), t284, t285)) else (none)) else (none)) = some (r1, r2, r3) := H
   have A9 := Aside0.mk A90
   clear A90
   obtain ⟨c10, H⟩ := ifS H
   have c10b0 : decide (0 ≤ t274) = true := decide_eq_true c10
   clear c10
   obtain ⟨c11, H⟩ := ifS H
   have c11b0 : decide (t274 < (t269.length : Int)) = true := decide_eq_true c11
   clear c11
   obtain ⟨y286, hy286⟩ : ∃ y_ : List (S43), y_ = (t269.set (t274 : Int).toNat (⟨t283, (rd_T43 t269 t274).f1, (rd_T43 t269 t274).f2⟩ : S43)) := ⟨_, rfl⟩
   replace H : (some (y286, t284, t285)) = some (r1, r2, r3) := by first | (rw [hy286]; with_reducible exact H) | (have H2_ := (Option.bind_some _ _).symm.trans H; rw [hy286]; with_reducible exact H2_) | (have H2_ := (Option.bind_some _ _).symm.trans H; with_reducible exact H2_) | with_reducible exact H | (rw [hy286]; exact H) | exact H
   have Ny286 := Aside0.mk hy286
   clear hy286
   simp only [Option.some.injEq, Prod.mk.injEq] at H
   obtain ⟨rfl, rfl, rfl⟩ := H
   go_enter Try.func34, Try.ntmps34
   go_wp2_with (first | ((with_reducible refine gate_callee (f := 40) rfl ?_); refine goesL_ (some 6) rfl rfl Try.func40 (by kernel_rfl) rfl #[.pointer (some ⟨g, 0, none⟩)] rfl zG ?_; (with_reducible refine (spec_l10Draw.calls k g s0_0 s0_1 s0_2 t269 t272 t273 w0 _ ?side1 ?side2 A2.out).mono ?_); (case side1 => exact spec_l10Any.zI63 HI0); (case side2 => repeat (first | (with_reducible first | exact HB.out | apply below_alloc | apply pw_below_drewN | apply below_drew1 | refine below_set ?_ (IsS63.ge HI0.out)) | exact HB.out)); rintro e w13 ⟨v270, rfl, ho0, hi, hb, hk⟩; refine ⟨_, rfl, ?_⟩; have HO271 := Aside0.mk (Kd.R_lower ho0 (keep_size (w := w) (g := g) (row := none) (zH HK))); replace HK := Aside0.mk (KeepBut.trans (zH HK) hk (.inl rfl)); replace HB := Aside0.mk (hb); replace HI0 := Aside0.mk (hi); (try clear hb); (try clear ho0); obtain ⟨Ao14, co14, eo14⟩ := Kd.R_slice HO271.out; subst eo14) | ((with_reducible refine gate_callee (f := 35) rfl ?_); refine goesL_ (some 14) rfl rfl Try.func35 (by kernel_rfl) rfl #[.pointer (some ⟨g, 0, none⟩), .int .i64 (t269.length : Int)] rfl zG ?_; (with_reducible refine (spec_l1Below.calls g s0_0 t272 t273 (t269.length : Int) t274 t275 t276 w0 _ ?side1 ?side2 A6.out).mono ?_); (case side1 => exact spec_l10Any.zI63 HI0); (case side2 => repeat (first | (with_reducible first | exact HB.out | apply below_alloc | apply pw_below_drewN | apply below_drew1 | refine below_set ?_ (IsS63.ge HI0.out)) | exact HB.out)); rintro e w15 ⟨rfl, hi, hb, hk⟩; refine ⟨_, rfl, ?_⟩; replace HO271 := Aside0.mk (Kd.R_mono (Kd.R_keep (IsS63.apart (show IsS63 w0 _ g s0_0 t272 t273 from spec_l10Any.zI63 HI0) (zR HO271) (by decide)) hk (fun _ h => h.2)) (fun _ h => h.1)); replace HK := Aside0.mk (KeepBut.trans (zH HK) hk (.inl rfl)); replace HB := Aside0.mk (hb); replace HI0 := Aside0.mk (hi); (try clear hb)) | ((with_reducible refine gate_callee (f := 35) rfl ?_); refine goesL_ (some 16) rfl rfl Try.func35 (by kernel_rfl) rfl #[.pointer (some ⟨g, 0, none⟩), .int .i64 9] rfl zG ?_; (with_reducible refine (spec_l1Below.calls g s0_0 t275 t276 9 t277 t278 t279 w0 _ ?side1 ?side2 A7.out).mono ?_); (case side1 => exact spec_l10Any.zI63 HI0); (case side2 => repeat (first | (with_reducible first | exact HB.out | apply below_alloc | apply pw_below_drewN | apply below_drew1 | refine below_set ?_ (IsS63.ge HI0.out)) | exact HB.out)); rintro e w16 ⟨rfl, hi, hb, hk⟩; refine ⟨_, rfl, ?_⟩; replace HO271 := Aside0.mk (Kd.R_mono (Kd.R_keep (IsS63.apart (show IsS63 w0 _ g s0_0 t275 t276 from spec_l10Any.zI63 HI0) (zR HO271) (by decide)) hk (fun _ h => h.2)) (fun _ h => h.1)); replace HK := Aside0.mk (KeepBut.trans (zH HK) hk (.inl rfl)); replace HB := Aside0.mk (hb); replace HI0 := Aside0.mk (hi); (try clear hb)) | ((with_reducible refine gate_dst (N := 22) rfl ?_); refine Kd.R_lit (Kd.int .i64) _ 3 ?hg (N := 22) ?hd (xs := ([(-1), 10, 26, 255, 256] : List Int)) (inner := [.int .i64 (-1), .int .i64 10, .int .i64 26, .int .i64 255, .int .i64 256]) (ok := fun _ => True) (okp := fun _ => True) ?hr ?hp (fun _ hk => hk) trivial (Below.refl _ _) (Nat.le_refl _) (by simp) ?_; (case hd => rfl); (case hg => rfl); (case hr => first | (go_simp; done) | (go_simp; rfl)); (case hp => exact (Reps.one (show Kd.M (Kd.int .i64) _ _ _ (-1) [.int .i64 (-1)] from rfl) (Reps.one (show Kd.M (Kd.int .i64) _ _ _ 10 [.int .i64 10] from rfl) (Reps.one (show Kd.M (Kd.int .i64) _ _ _ 26 [.int .i64 26] from rfl) (Reps.one (show Kd.M (Kd.int .i64) _ _ _ 255 [.int .i64 255] from rfl) (Reps.one (show Kd.M (Kd.int .i64) _ _ _ 256 [.int .i64 256] from rfl) (Reps.none _ _))))))); intro v281 w17 ho18 hb hg_ hnew_; clear hg_ hnew_; (first | rw [← Ny280.out] at ho18 | (simp only [Int.reduceToNat] at ho18; rw [← Ny280.out] at ho18)); replace HO271 := Aside0.mk (Kd.R_below (zR HO271) hb); have HO282 := Aside0.mk (Kd.R_lower ho18 (keep_size (w := w) (g := g) (row := none) (zH HK))); replace HK := Aside0.mk (KeepBut.trans (zH HK) (KeepBut.of_below hb g none) (.inl rfl)); replace HB := Aside0.mk (below_step (by repeat (first | (with_reducible first | exact HB.out | apply below_alloc | apply pw_below_drewN | apply below_drew1 | refine below_set ?_ (IsS63.ge HI0.out)) | exact HB.out)) hb); replace HI0 := Aside0.mk (IsS63.below (spec_l10Any.zI63 HI0) hb); clear hb ho18; obtain ⟨Ao19, co19, eo19⟩ := Kd.R_slice HO282.out; subst eo19) | ((with_reducible refine gate_callee (f := 41) rfl ?_); refine goesL_ (some 23) rfl rfl Try.func41 (by kernel_rfl) rfl #[.pointer (some ⟨g, 0, none⟩), .slice Ao19 y280.length co19] rfl zG ?_; (with_reducible refine (spec_l1Int.calls g s0_0 t278 t279 _ _ y280 t283 t284 t285 w0 _ ?side1 ?side2 ?side3 ?side4 ?side5 A9.out).mono ?_); (case side1 => exact spec_l10Any.zI63 HI0); (case side2 => repeat (first | (with_reducible first | exact HB.out | apply below_alloc | apply pw_below_drewN | apply below_drew1 | refine below_set ?_ (IsS63.ge HI0.out)) | exact HB.out)); (case side3 => repeat (first | exact (Kd.R_reads' HO282.out).2.2 | (with_reducible refine Kd.C_alloc ?_ _) | (with_reducible refine Kd.C_drewN ?_ _) | (with_reducible refine Kd.C_drew ?_))); (case side4 => exact (Kd.R_reads' HO282.out).2.1); (case side5 => exact far_slice (IsS63.own_ne HI0.out HO282.out (by decide))); rintro e w20 ⟨rfl, hi, hb, hk⟩; refine ⟨_, rfl, ?_⟩; replace HO271 := Aside0.mk (Kd.R_mono (Kd.R_keep (IsS63.apart (show IsS63 w0 _ g s0_0 t278 t279 from spec_l10Any.zI63 HI0) (zR HO271) (by decide)) hk (fun _ h => h.2)) (fun _ h => h.1)); replace HO282 := Aside0.mk (Kd.R_mono (Kd.R_keep (IsS63.apart (show IsS63 w0 _ g s0_0 t278 t279 from spec_l10Any.zI63 HI0) (zR HO282) (by decide)) hk (fun _ h => h.2)) (fun _ h => h.1)); replace HK := Aside0.mk (KeepBut.trans (zH HK) hk (.inl rfl)); replace HB := Aside0.mk (hb); replace HI0 := Aside0.mk (hi); (try clear hb); have p12 : 0 ≤ (t274 : Int) := zD; have q12 : (t274 : Int) < ((t269.length : Int) : Int) := zD; obtain ⟨go12, co12, eo12, gb12, gl12, cl12, HG12⟩ := Kd.R_form HO271.out (by omega); (first | cases eo12 | (injection eo12 with ea_ en_ ec_; (first | subst ea_ | (injection ea_ with ea_; subst ea_)); subst ec_; clear en_)); have GB12 := Aside0.mk gb12; have GG12 := Aside0.mk HG12; clear gb12 gl12 HG12; obtain ⟨ce12, hcl12, hM12, hcc12, hfr12⟩ := Kd.R_elem HO271.out z43 (t274 : Int) p12 q12; obtain rfl := k43_openM hM12; have hx12_0 : w20.cell? ⟨go12, (t274 : Int).toNat * 3, none⟩ = some (.int .i64 ((rd_T43 t269 t274).f0)) := hcc12 0 _ rfl; have hx12_1 : w20.cell? ⟨go12, (t274 : Int).toNat * 3 + 1, none⟩ = some (.int .i64 ((rd_T43 t269 t274).f1)) := hcc12 1 _ rfl; have hx12_2 : w20.cell? ⟨go12, (t274 : Int).toNat * 3 + 2, none⟩ = some (.bool ((rd_T43 t269 t274).f2)) := hcc12 2 _ rfl; have hf12_0 : w20.frozen? ⟨go12, (t274 : Int).toNat * 3, none⟩ = false := hfr12 0; have hf12_1 : w20.frozen? ⟨go12, (t274 : Int).toNat * 3 + 1, none⟩ = false := hfr12 1; have hf12_2 : w20.frozen? ⟨go12, (t274 : Int).toNat * 3 + 2, none⟩ = false := hfr12 2; clear hcl12 hcc12 hfr12 hM12; replace p12 := eq_true p12; replace q12 := eq_true q12; have HX21 := Aside0.mk (show Kd.R k43 43 w20 w.heap.size (fun _ => True) (.slice (some ⟨go12, 0, none⟩) t269.length co14) t269 from (zR HO271)); obtain ⟨ce21, hcl21, hM21, hcc21, hfr21⟩ := Kd.R_elem HX21.out z43 (t274 : Int) (zD) (by have h_ : (t274 : Int) < ((t269.length : Int) : Int) := zD; first | exact h_ | (have e_ := (Kd.R_reads' HO271.out).1; omega) | simpa using h_); obtain rfl := k43_openM hM21; have HP21 := Kd.R_seg HX21.out (t274 : Int) (zD) (by have h_ : (t274 : Int) < ((t269.length : Int) : Int) := zD; first | exact h_ | (have e_ := (Kd.R_reads' HO271.out).1; omega) | simpa using h_) (seg := [.int .i64 t283]) (j := 0) hcl21 hcc21 (show 1 ≤ 3 from by decide) (x' := (⟨t283, (rd_T43 t269 t274).f1, (rd_T43 t269 t274).f2⟩ : S43)) (k43_mkM _ _ _ (⟨t283, (rd_T43 t269 t274).f1, (rd_T43 t269 t274).f2⟩ : S43) ) (fun _ hk => hk); have hx21_0 := hcc21 0 _ rfl; (try simp only [show (k43).sz = 3 from rfl, Nat.mul_one, Nat.add_zero] at hx21_0); have hf21_0 := hfr21 0; (try simp only [show (k43).sz = 3 from rfl, Nat.mul_one, Nat.add_zero] at hf21_0); clear hcl21 hcc21 hfr21 hM21) | ((with_reducible refine gate_store (t := 3) (p := 25) rfl ?_); refine store_event (t := 3) (p := 25) (v := ?vo_w22) (w1 := (w20.setCell ⟨go12, (t274 : Int).toNat * 3, none⟩ (.int .i64 t283))) ?hg ?ho ?hn ?hr ?_; (case ho => rfl); (case hg => rfl); (case hn => rfl); (case hr => first | (go_simp; done) | (go_simp; rfl)); intro w22 hw; have hg : w20.grownBy w22 (some go12) := (by rw [hw]; exact HP21.2); have hp_ : Kd.R k43 43 w22 w.heap.size (fun _ => True) (.slice (some ⟨go12, 0, none⟩) t269.length co14) y286 := (by rw [hw, Ny286.out]; exact HP21.1); clear HP21; replace HI0 := Aside0.mk (IsS63.grown (spec_l10Any.zI63 HI0) hg (IsS63.own_ne HI0.out HO271.out (by decide))); replace HO282 := Aside0.mk (Kd.R_over' (v := (.slice (some ⟨go12, 0, none⟩) t269.length co14)) (zR HO282) (Kd.R_typed HO271.out) (by decide) hg); replace HB := Aside0.mk ((by rw [hw]; exact below_set (HB.out) (Nat.le_trans HL.out GB12.out) : Below w0.heap.size w0 w22)); replace HK := Aside0.mk (KeepBut.trans (zH HK) (KeepBut.of_grown hg g) (Kd.R_base2 HO271.out)); replace HO271 := Aside0.mk (hp_); clear hg hw hp_))
   go_ret
   exact ⟨_, zE, by (with_reducible repeat (first | apply Kd.R_alloc | apply Kd.R_drewN | apply Kd.R_drew)); exact HO271.out, spec_l10Any.zI63 HI0, by repeat (first | (with_reducible first | exact HB.out | apply below_alloc | apply pw_below_drewN | apply below_drew1 | refine below_set ?_ (IsS63.ge HI0.out)) | exact HB.out), zH HK⟩
  ·rw [if_neg c8] at H
   have c8b0 : (t277 == 0) = false := beq_eq_false_iff_ne.mpr c8
   have c8b1 : (t277 != 0) = true := bne_iff_ne.mpr c8
   by_cases c23 : t277 = 1
   ·rw [if_pos c23] at H
    have c23b0 : (t277 == 1) = true := beq_iff_eq.mpr c23
    have c23b1 : (t277 != 1) = false := bne_eq_false_iff_eq.mpr c23
    clear c23
    obtain ⟨y287, hy287⟩ : ∃ y_ : List Int, y_ = (([(-1), 9, 10] : List Int)) := ⟨_, rfl⟩
    replace H : ((spec_l1Int.f s0_0 t278 t279 y287).bind fun bt290 => (if 0 ≤ t274 then (if t274 < (t269.length : Int) then (some ((t269.set (t274 : Int).toNat (⟨(rd_T43 t269 t274).f0, bt290.1, (rd_T43 t269 t274).f2⟩ : S43)), bt290.2.1, bt290.2.2)) else (none)) else (none))) = some (r1, r2, r3) := by first | (rw [hy287]; with_reducible exact H) | (have H2_ := (Option.bind_some _ _).symm.trans H; rw [hy287]; with_reducible exact H2_) | (have H2_ := (Option.bind_some _ _).symm.trans H; with_reducible exact H2_) | with_reducible exact H | (rw [hy287]; exact H) | exact H
    have Ny287 := Aside0.mk hy287
    clear hy287
    replace H := Option.bind_eq_some_iff.mp H
    obtain ⟨⟨t290, t291, t292⟩, A240, H⟩ := H
    replace H : (if 0 ≤ t274 then (if t274 < (t269.length : Int) then (some ((t269.set (t274 : Int).toNat (⟨(rd_T43 t269 t274).f0, t290, (rd_T43 t269 t274).f2⟩ : S43)), t291, t292)) else (none)) else (none)) = some (r1, r2, r3) := H
    have A24 := Aside0.mk A240
    clear A240
    obtain ⟨c25, H⟩ := ifS H
    have c25b0 : decide (0 ≤ t274) = true := decide_eq_true c25
    clear c25
    obtain ⟨c26, H⟩ := ifS H
    have c26b0 : decide (t274 < (t269.length : Int)) = true := decide_eq_true c26
    clear c26
    obtain ⟨y293, hy293⟩ : ∃ y_ : List (S43), y_ = (t269.set (t274 : Int).toNat (⟨(rd_T43 t269 t274).f0, t290, (rd_T43 t269 t274).f2⟩ : S43)) := ⟨_, rfl⟩
    replace H : (some (y293, t291, t292)) = some (r1, r2, r3) := by first | (rw [hy293]; with_reducible exact H) | (have H2_ := (Option.bind_some _ _).symm.trans H; rw [hy293]; with_reducible exact H2_) | (have H2_ := (Option.bind_some _ _).symm.trans H; with_reducible exact H2_) | with_reducible exact H | (rw [hy293]; exact H) | exact H
    have Ny293 := Aside0.mk hy293
    clear hy293
    simp only [Option.some.injEq, Prod.mk.injEq] at H
    obtain ⟨rfl, rfl, rfl⟩ := H
    go_enter Try.func34, Try.ntmps34
    go_wp2_with (first | ((with_reducible refine gate_callee (f := 40) rfl ?_); refine goesL_ (some 6) rfl rfl Try.func40 (by kernel_rfl) rfl #[.pointer (some ⟨g, 0, none⟩)] rfl zG ?_; (with_reducible refine (spec_l10Draw.calls k g s0_0 s0_1 s0_2 t269 t272 t273 w0 _ ?side1 ?side2 A2.out).mono ?_); (case side1 => exact spec_l10Any.zI63 HI0); (case side2 => repeat (first | (with_reducible first | exact HB.out | apply below_alloc | apply pw_below_drewN | apply below_drew1 | refine below_set ?_ (IsS63.ge HI0.out)) | exact HB.out)); rintro e w28 ⟨v270, rfl, ho0, hi, hb, hk⟩; refine ⟨_, rfl, ?_⟩; have HO271 := Aside0.mk (Kd.R_lower ho0 (keep_size (w := w) (g := g) (row := none) (zH HK))); replace HK := Aside0.mk (KeepBut.trans (zH HK) hk (.inl rfl)); replace HB := Aside0.mk (hb); replace HI0 := Aside0.mk (hi); (try clear hb); (try clear ho0); obtain ⟨Ao29, co29, eo29⟩ := Kd.R_slice HO271.out; subst eo29) | ((with_reducible refine gate_callee (f := 35) rfl ?_); refine goesL_ (some 14) rfl rfl Try.func35 (by kernel_rfl) rfl #[.pointer (some ⟨g, 0, none⟩), .int .i64 (t269.length : Int)] rfl zG ?_; (with_reducible refine (spec_l1Below.calls g s0_0 t272 t273 (t269.length : Int) t274 t275 t276 w0 _ ?side1 ?side2 A6.out).mono ?_); (case side1 => exact spec_l10Any.zI63 HI0); (case side2 => repeat (first | (with_reducible first | exact HB.out | apply below_alloc | apply pw_below_drewN | apply below_drew1 | refine below_set ?_ (IsS63.ge HI0.out)) | exact HB.out)); rintro e w30 ⟨rfl, hi, hb, hk⟩; refine ⟨_, rfl, ?_⟩; replace HO271 := Aside0.mk (Kd.R_mono (Kd.R_keep (IsS63.apart (show IsS63 w0 _ g s0_0 t272 t273 from spec_l10Any.zI63 HI0) (zR HO271) (by decide)) hk (fun _ h => h.2)) (fun _ h => h.1)); replace HK := Aside0.mk (KeepBut.trans (zH HK) hk (.inl rfl)); replace HB := Aside0.mk (hb); replace HI0 := Aside0.mk (hi); (try clear hb)) | ((with_reducible refine gate_callee (f := 35) rfl ?_); refine goesL_ (some 16) rfl rfl Try.func35 (by kernel_rfl) rfl #[.pointer (some ⟨g, 0, none⟩), .int .i64 9] rfl zG ?_; (with_reducible refine (spec_l1Below.calls g s0_0 t275 t276 9 t277 t278 t279 w0 _ ?side1 ?side2 A7.out).mono ?_); (case side1 => exact spec_l10Any.zI63 HI0); (case side2 => repeat (first | (with_reducible first | exact HB.out | apply below_alloc | apply pw_below_drewN | apply below_drew1 | refine below_set ?_ (IsS63.ge HI0.out)) | exact HB.out)); rintro e w31 ⟨rfl, hi, hb, hk⟩; refine ⟨_, rfl, ?_⟩; replace HO271 := Aside0.mk (Kd.R_mono (Kd.R_keep (IsS63.apart (show IsS63 w0 _ g s0_0 t275 t276 from spec_l10Any.zI63 HI0) (zR HO271) (by decide)) hk (fun _ h => h.2)) (fun _ h => h.1)); replace HK := Aside0.mk (KeepBut.trans (zH HK) hk (.inl rfl)); replace HB := Aside0.mk (hb); replace HI0 := Aside0.mk (hi); (try clear hb)) | ((with_reducible refine gate_dst (N := 31) rfl ?_); refine Kd.R_lit (Kd.int .i64) _ 3 ?hg (N := 31) ?hd (xs := ([(-1), 9, 10] : List Int)) (inner := [.int .i64 (-1), .int .i64 9, .int .i64 10]) (ok := fun _ => True) (okp := fun _ => True) ?hr ?hp (fun _ hk => hk) trivial (Below.refl _ _) (Nat.le_refl _) (by simp) ?_; (case hd => rfl); (case hg => rfl); (case hr => first | (go_simp; done) | (go_simp; rfl)); (case hp => exact (Reps.one (show Kd.M (Kd.int .i64) _ _ _ (-1) [.int .i64 (-1)] from rfl) (Reps.one (show Kd.M (Kd.int .i64) _ _ _ 9 [.int .i64 9] from rfl) (Reps.one (show Kd.M (Kd.int .i64) _ _ _ 10 [.int .i64 10] from rfl) (Reps.none _ _))))); intro v288 w32 ho33 hb hg_ hnew_; clear hg_ hnew_; (first | rw [← Ny287.out] at ho33 | (simp only [Int.reduceToNat] at ho33; rw [← Ny287.out] at ho33)); replace HO271 := Aside0.mk (Kd.R_below (zR HO271) hb); have HO289 := Aside0.mk (Kd.R_lower ho33 (keep_size (w := w) (g := g) (row := none) (zH HK))); replace HK := Aside0.mk (KeepBut.trans (zH HK) (KeepBut.of_below hb g none) (.inl rfl)); replace HB := Aside0.mk (below_step (by repeat (first | (with_reducible first | exact HB.out | apply below_alloc | apply pw_below_drewN | apply below_drew1 | refine below_set ?_ (IsS63.ge HI0.out)) | exact HB.out)) hb); replace HI0 := Aside0.mk (IsS63.below (spec_l10Any.zI63 HI0) hb); clear hb ho33; obtain ⟨Ao34, co34, eo34⟩ := Kd.R_slice HO289.out; subst eo34) | ((with_reducible refine gate_callee (f := 41) rfl ?_); refine goesL_ (some 32) rfl rfl Try.func41 (by kernel_rfl) rfl #[.pointer (some ⟨g, 0, none⟩), .slice Ao34 y287.length co34] rfl zG ?_; (with_reducible refine (spec_l1Int.calls g s0_0 t278 t279 _ _ y287 t290 t291 t292 w0 _ ?side1 ?side2 ?side3 ?side4 ?side5 A24.out).mono ?_); (case side1 => exact spec_l10Any.zI63 HI0); (case side2 => repeat (first | (with_reducible first | exact HB.out | apply below_alloc | apply pw_below_drewN | apply below_drew1 | refine below_set ?_ (IsS63.ge HI0.out)) | exact HB.out)); (case side3 => repeat (first | exact (Kd.R_reads' HO289.out).2.2 | (with_reducible refine Kd.C_alloc ?_ _) | (with_reducible refine Kd.C_drewN ?_ _) | (with_reducible refine Kd.C_drew ?_))); (case side4 => exact (Kd.R_reads' HO289.out).2.1); (case side5 => exact far_slice (IsS63.own_ne HI0.out HO289.out (by decide))); rintro e w35 ⟨rfl, hi, hb, hk⟩; refine ⟨_, rfl, ?_⟩; replace HO271 := Aside0.mk (Kd.R_mono (Kd.R_keep (IsS63.apart (show IsS63 w0 _ g s0_0 t278 t279 from spec_l10Any.zI63 HI0) (zR HO271) (by decide)) hk (fun _ h => h.2)) (fun _ h => h.1)); replace HO289 := Aside0.mk (Kd.R_mono (Kd.R_keep (IsS63.apart (show IsS63 w0 _ g s0_0 t278 t279 from spec_l10Any.zI63 HI0) (zR HO289) (by decide)) hk (fun _ h => h.2)) (fun _ h => h.1)); replace HK := Aside0.mk (KeepBut.trans (zH HK) hk (.inl rfl)); replace HB := Aside0.mk (hb); replace HI0 := Aside0.mk (hi); (try clear hb); have p27 : 0 ≤ (t274 : Int) := zD; have q27 : (t274 : Int) < ((t269.length : Int) : Int) := zD; obtain ⟨go27, co27, eo27, gb27, gl27, cl27, HG27⟩ := Kd.R_form HO271.out (by omega); (first | cases eo27 | (injection eo27 with ea_ en_ ec_; (first | subst ea_ | (injection ea_ with ea_; subst ea_)); subst ec_; clear en_)); have GB27 := Aside0.mk gb27; have GG27 := Aside0.mk HG27; clear gb27 gl27 HG27; obtain ⟨ce27, hcl27, hM27, hcc27, hfr27⟩ := Kd.R_elem HO271.out z43 (t274 : Int) p27 q27; obtain rfl := k43_openM hM27; have hx27_0 : w35.cell? ⟨go27, (t274 : Int).toNat * 3, none⟩ = some (.int .i64 ((rd_T43 t269 t274).f0)) := hcc27 0 _ rfl; have hx27_1 : w35.cell? ⟨go27, (t274 : Int).toNat * 3 + 1, none⟩ = some (.int .i64 ((rd_T43 t269 t274).f1)) := hcc27 1 _ rfl; have hx27_2 : w35.cell? ⟨go27, (t274 : Int).toNat * 3 + 2, none⟩ = some (.bool ((rd_T43 t269 t274).f2)) := hcc27 2 _ rfl; have hf27_0 : w35.frozen? ⟨go27, (t274 : Int).toNat * 3, none⟩ = false := hfr27 0; have hf27_1 : w35.frozen? ⟨go27, (t274 : Int).toNat * 3 + 1, none⟩ = false := hfr27 1; have hf27_2 : w35.frozen? ⟨go27, (t274 : Int).toNat * 3 + 2, none⟩ = false := hfr27 2; clear hcl27 hcc27 hfr27 hM27; replace p27 := eq_true p27; replace q27 := eq_true q27; have HX36 := Aside0.mk (show Kd.R k43 43 w35 w.heap.size (fun _ => True) (.slice (some ⟨go27, 0, none⟩) t269.length co29) t269 from (zR HO271)); obtain ⟨ce36, hcl36, hM36, hcc36, hfr36⟩ := Kd.R_elem HX36.out z43 (t274 : Int) (zD) (by have h_ : (t274 : Int) < ((t269.length : Int) : Int) := zD; first | exact h_ | (have e_ := (Kd.R_reads' HO271.out).1; omega) | simpa using h_); obtain rfl := k43_openM hM36; have HP36 := Kd.R_seg HX36.out (t274 : Int) (zD) (by have h_ : (t274 : Int) < ((t269.length : Int) : Int) := zD; first | exact h_ | (have e_ := (Kd.R_reads' HO271.out).1; omega) | simpa using h_) (seg := [.int .i64 t290]) (j := 1) hcl36 hcc36 (show 2 ≤ 3 from by decide) (x' := (⟨(rd_T43 t269 t274).f0, t290, (rd_T43 t269 t274).f2⟩ : S43)) (k43_mkM _ _ _ (⟨(rd_T43 t269 t274).f0, t290, (rd_T43 t269 t274).f2⟩ : S43) ) (fun _ hk => hk); have hx36_1 := hcc36 1 _ rfl; (try simp only [show (k43).sz = 3 from rfl, Nat.mul_one, Nat.add_zero] at hx36_1); have hf36_1 := hfr36 1; (try simp only [show (k43).sz = 3 from rfl, Nat.mul_one, Nat.add_zero] at hf36_1); clear hcl36 hcc36 hfr36 hM36) | ((with_reducible refine gate_store (t := 3) (p := 34) rfl ?_); refine store_event (t := 3) (p := 34) (v := ?vo_w37) (w1 := (w35.setCell ⟨go27, (t274 : Int).toNat * 3 + 1, none⟩ (.int .i64 t290))) ?hg ?ho ?hn ?hr ?_; (case ho => rfl); (case hg => rfl); (case hn => rfl); (case hr => first | (go_simp; done) | (go_simp; rfl)); intro w37 hw; have hg : w35.grownBy w37 (some go27) := (by rw [hw]; exact HP36.2); have hp_ : Kd.R k43 43 w37 w.heap.size (fun _ => True) (.slice (some ⟨go27, 0, none⟩) t269.length co29) y293 := (by rw [hw, Ny293.out]; exact HP36.1); clear HP36; replace HI0 := Aside0.mk (IsS63.grown (spec_l10Any.zI63 HI0) hg (IsS63.own_ne HI0.out HO271.out (by decide))); replace HO289 := Aside0.mk (Kd.R_over' (v := (.slice (some ⟨go27, 0, none⟩) t269.length co29)) (zR HO289) (Kd.R_typed HO271.out) (by decide) hg); replace HB := Aside0.mk ((by rw [hw]; exact below_set (HB.out) (Nat.le_trans HL.out GB27.out) : Below w0.heap.size w0 w37)); replace HK := Aside0.mk (KeepBut.trans (zH HK) (KeepBut.of_grown hg g) (Kd.R_base2 HO271.out)); replace HO271 := Aside0.mk (hp_); clear hg hw hp_))
    go_ret
    exact ⟨_, zE, by (with_reducible repeat (first | apply Kd.R_alloc | apply Kd.R_drewN | apply Kd.R_drew)); exact HO271.out, spec_l10Any.zI63 HI0, by repeat (first | (with_reducible first | exact HB.out | apply below_alloc | apply pw_below_drewN | apply below_drew1 | refine below_set ?_ (IsS63.ge HI0.out)) | exact HB.out), zH HK⟩
   ·rw [if_neg c23] at H
    have c23b0 : (t277 == 1) = false := beq_eq_false_iff_ne.mpr c23
    have c23b1 : (t277 != 1) = true := bne_iff_ne.mpr c23
    by_cases c38 : t277 = 2
    ·rw [if_pos c38] at H
     have c38b0 : (t277 == 2) = true := beq_iff_eq.mpr c38
     have c38b1 : (t277 != 2) = false := bne_eq_false_iff_eq.mpr c38
     clear c38
     have H' := Aside0.mk H
     clear H
     go_enter Try.func34, Try.ntmps34
     go_wp2_with (first | ((with_reducible refine gate_callee (f := 40) rfl ?_); refine goesL_ (some 6) rfl rfl Try.func40 (by kernel_rfl) rfl #[.pointer (some ⟨g, 0, none⟩)] rfl zG ?_; (with_reducible refine (spec_l10Draw.calls k g s0_0 s0_1 s0_2 t269 t272 t273 w0 _ ?side1 ?side2 A2.out).mono ?_); (case side1 => exact spec_l10Any.zI63 HI0); (case side2 => repeat (first | (with_reducible first | exact HB.out | apply below_alloc | apply pw_below_drewN | apply below_drew1 | refine below_set ?_ (IsS63.ge HI0.out)) | exact HB.out)); rintro e w39 ⟨v270, rfl, ho0, hi, hb, hk⟩; refine ⟨_, rfl, ?_⟩; have HO271 := Aside0.mk (Kd.R_lower ho0 (keep_size (w := w) (g := g) (row := none) (zH HK))); replace HK := Aside0.mk (KeepBut.trans (zH HK) hk (.inl rfl)); replace HB := Aside0.mk (hb); replace HI0 := Aside0.mk (hi); (try clear hb); (try clear ho0); obtain ⟨Ao40, co40, eo40⟩ := Kd.R_slice HO271.out; subst eo40) | ((with_reducible refine gate_callee (f := 35) rfl ?_); refine goesL_ (some 14) rfl rfl Try.func35 (by kernel_rfl) rfl #[.pointer (some ⟨g, 0, none⟩), .int .i64 (t269.length : Int)] rfl zG ?_; (with_reducible refine (spec_l1Below.calls g s0_0 t272 t273 (t269.length : Int) t274 t275 t276 w0 _ ?side1 ?side2 A6.out).mono ?_); (case side1 => exact spec_l10Any.zI63 HI0); (case side2 => repeat (first | (with_reducible first | exact HB.out | apply below_alloc | apply pw_below_drewN | apply below_drew1 | refine below_set ?_ (IsS63.ge HI0.out)) | exact HB.out)); rintro e w41 ⟨rfl, hi, hb, hk⟩; refine ⟨_, rfl, ?_⟩; replace HO271 := Aside0.mk (Kd.R_mono (Kd.R_keep (IsS63.apart (show IsS63 w0 _ g s0_0 t272 t273 from spec_l10Any.zI63 HI0) (zR HO271) (by decide)) hk (fun _ h => h.2)) (fun _ h => h.1)); replace HK := Aside0.mk (KeepBut.trans (zH HK) hk (.inl rfl)); replace HB := Aside0.mk (hb); replace HI0 := Aside0.mk (hi); (try clear hb)) | ((with_reducible refine gate_callee (f := 35) rfl ?_); refine goesL_ (some 16) rfl rfl Try.func35 (by kernel_rfl) rfl #[.pointer (some ⟨g, 0, none⟩), .int .i64 9] rfl zG ?_; (with_reducible refine (spec_l1Below.calls g s0_0 t275 t276 9 t277 t278 t279 w0 _ ?side1 ?side2 A7.out).mono ?_); (case side1 => exact spec_l10Any.zI63 HI0); (case side2 => repeat (first | (with_reducible first | exact HB.out | apply below_alloc | apply pw_below_drewN | apply below_drew1 | refine below_set ?_ (IsS63.ge HI0.out)) | exact HB.out)); rintro e w42 ⟨rfl, hi, hb, hk⟩; refine ⟨_, rfl, ?_⟩; replace HO271 := Aside0.mk (Kd.R_mono (Kd.R_keep (IsS63.apart (show IsS63 w0 _ g s0_0 t275 t276 from spec_l10Any.zI63 HI0) (zR HO271) (by decide)) hk (fun _ h => h.2)) (fun _ h => h.1)); replace HK := Aside0.mk (KeepBut.trans (zH HK) hk (.inl rfl)); replace HB := Aside0.mk (hb); replace HI0 := Aside0.mk (hi); (try clear hb)))
     go_loopg [3] k (fun kq v3 w' => ∃ (x3_1 : List (S43)), Aside0 (spec_l10Any.l0 kq x3_1 s0_0 t278 t279 = some (r1, r2, r3)) ∧ Aside0 (kq ≤ k) ∧ Aside0 (Kd.R k43 43 w' w.heap.size (fun _ => True) v3 x3_1) ∧ Aside0 (IsS63 w0 w' g s0_0 t278 t279) ∧ Aside0 (KeepBut w w' g none) ∧ Aside0 (Below w0.heap.size w0 w'))
     case atStart => exact ⟨(t269), H', ⟨Nat.le_refl _⟩, ⟨zR HO271⟩, ⟨spec_l10Any.zI63 HI0⟩, ⟨zH HK⟩, ⟨by repeat (first | (with_reducible first | exact HB.out | apply below_alloc | apply pw_below_drewN | apply below_drew1 | refine below_set ?_ (IsS63.ge HI0.out)) | exact HB.out)⟩⟩
     case round =>
      clear H'
      try clear c1
      try clear p1
      try clear q1
      try clear hx1
      try clear hf1
      try clear c2
      try clear p2
      try clear q2
      try clear hx2
      try clear hf2
      try clear c3
      try clear c3b0
      try clear c3b1
      try clear c3b2
      try clear hx3
      try clear hf3
      try clear c4
      try clear c8
      try clear c8b0
      try clear c8b1
      try clear c10
      try clear c10b0
      try clear c11
      try clear c11b0
      try clear c12
      try clear p12
      try clear q12
      try clear hx12
      try clear hf12
      try clear c21
      try clear hx21
      try clear hf21
      try clear c23
      try clear c23b0
      try clear c23b1
      try clear c25
      try clear c25b0
      try clear c26
      try clear c26b0
      try clear c27
      try clear p27
      try clear q27
      try clear hx27
      try clear hf27
      try clear c34
      try clear c35
      try clear c36
      try clear hx36
      try clear hf36
      try clear c38
      try clear c38b0
      try clear c38b1
      try clear c40
      try clear c41
      try clear hx12_0
      try clear hx12_1
      try clear hx12_2
      try clear hx21_0
      try clear hx27_0
      try clear hx27_1
      try clear hx27_2
      try clear hx36_1
      try clear p12
      try clear p27
      try clear q12
      try clear q27
      obtain ⟨x3_1, HA, HK1, HO_3, HI0, HK, HB⟩ := hrel
      cases gk with
      | zero => exact absurd HA.out (by simp [spec_l10Any.l0])
      | succ k1 =>
       have H := HA.out
       clear HA
       simp only [spec_l10Any.l0] at H
       by_cases c43 : (x3_1.length : Int) < 12
       ·rw [if_pos c43] at H
        have c43b0 : decide ((x3_1.length : Int) < 12) = true := decide_eq_true c43
        have c43b1 : decide (x3_1.length < 12) = true := decide_eq_true (by omega)
        clear c43
        replace H := Option.bind_eq_some_iff.mp H
        obtain ⟨⟨t294, t295, t296⟩, A440, H⟩ := H
        replace H : ((spec_IsRegistry.f k1 t294).bind fun t299 => (if t299 = true then (spec_l10Any.l0 k1 t294 s0_0 t278 t279) else (some (t294, t278, t279)))) = some (r1, r2, r3) := H
        have A44 := Aside0.mk A440
        clear A440
        obtain ⟨t299, A45, H⟩ := bindS H
        by_cases c46 : t299 = true
        ·subst c46
         have H1 : (spec_l10Any.l0 k1 t294 s0_0 t278 t279) = some (r1, r2, r3) := by rw [if_pos rfl] at H; exact H
         clear H
         have H := H1
         clear H1
         have H' := Aside0.mk H
         clear H
         obtain ⟨Ao47, co47, eo47⟩ := Kd.R_slice HO_3.out
         subst eo47
         go_wp2_with (first | ((with_reducible refine gate_callee (f := 6) rfl ?_); refine goesL_ (some 42) rfl rfl Try.func6 (by kernel_rfl) rfl #[.slice Ao47 x3_1.length co47, .int .i64 1] rfl zG ?_; (with_reducible refine (spec_AssignTag.calls k1 _ _ x3_1 1 t294 t295 t296 _ ?side1 ?side2 A44.out).mono ?_); (case side1 => repeat (first | exact (Kd.R_reads' HO_3.out).2.2 | (with_reducible refine Kd.C_alloc ?_ _) | (with_reducible refine Kd.C_drewN ?_ _) | (with_reducible refine Kd.C_drew ?_))); (case side2 => exact (Kd.R_reads' HO_3.out).2.1); rintro e w48 ⟨v297, rfl, ho0, hb⟩; refine ⟨_, rfl, ?_⟩; have HO298 := Aside0.mk (Kd.R_lower (Kd.R_new' ho0 (Kd.R_lt (zR HO_3))) (keep_size (w := w) (g := g) (row := none) (zH HK))); replace HO_3 := Aside0.mk (Kd.R_elder' (zR HO_3) (Kd.R_base ho0) hb); replace HK := Aside0.mk (KeepBut.trans (zH HK) (KeepBut.of_below hb g none) (.inl rfl)); replace HB := Aside0.mk (below_step (by repeat (first | (with_reducible first | exact HB.out | apply below_alloc | apply pw_below_drewN | apply below_drew1 | refine below_set ?_ (IsS63.ge HI0.out)) | exact HB.out)) hb); replace HI0 := Aside0.mk (IsS63.below (spec_l10Any.zI63 HI0) hb); (try clear hb); (try clear ho0); obtain ⟨Ao49, co49, eo49⟩ := Kd.R_slice HO298.out; subst eo49) | ((with_reducible refine gate_callee (f := 23) rfl ?_); refine goesL_ (some 47) rfl rfl Try.func23 (by kernel_rfl) rfl #[.slice Ao49 t294.length co49] rfl zG ?_; (with_reducible refine (spec_IsRegistry.calls k1 _ _ t294 true _ ?side1 ?side2 A45.out).mono ?_); (case side1 => repeat (first | exact (Kd.R_reads' HO298.out).2.2 | (with_reducible refine Kd.C_alloc ?_ _) | (with_reducible refine Kd.C_drewN ?_ _) | (with_reducible refine Kd.C_drew ?_))); (case side2 => exact (Kd.R_reads' HO298.out).2.1); rintro e w50 ⟨rfl, hb⟩; refine ⟨_, rfl, ?_⟩; replace HO_3 := Aside0.mk (Kd.R_below (zR HO_3) hb); replace HO298 := Aside0.mk (Kd.R_below (zR HO298) hb); replace HK := Aside0.mk (KeepBut.trans (zH HK) (KeepBut.of_below hb g none) (.inl rfl)); replace HB := Aside0.mk (below_step (by repeat (first | (with_reducible first | exact HB.out | apply below_alloc | apply pw_below_drewN | apply below_drew1 | refine below_set ?_ (IsS63.ge HI0.out)) | exact HB.out)) hb); replace HI0 := Aside0.mk (IsS63.below (spec_l10Any.zI63 HI0) hb); (try clear hb)))
         go_roundg k1
         case measure => have := HK1.out; omega
         case rel => exact ⟨(t294), H', ⟨by have := HK1.out; omega⟩, ⟨by (with_reducible repeat (first | apply Kd.R_alloc | apply Kd.R_drewN | apply Kd.R_drew)); exact Kd.R_mono HO298.out (fun _ hk => trivial)⟩, ⟨spec_l10Any.zI63 HI0⟩, ⟨zH HK⟩, ⟨by repeat (first | (with_reducible first | exact HB.out | apply below_alloc | apply pw_below_drewN | apply below_drew1 | refine below_set ?_ (IsS63.ge HI0.out)) | exact HB.out)⟩⟩
        ·replace c46 := Bool.eq_false_iff.mpr c46
         subst c46
         have H1 : (some (t294, t278, t279)) = some (r1, r2, r3) := by rw [if_neg (show ¬ (false = true) by decide)] at H; exact H
         clear H
         have H := H1
         clear H1
         simp only [Option.some.injEq, Prod.mk.injEq] at H
         obtain ⟨rfl, rfl, rfl⟩ := H
         obtain ⟨Ao51, co51, eo51⟩ := Kd.R_slice HO_3.out
         subst eo51
         go_wp2_with (first | ((with_reducible refine gate_callee (f := 6) rfl ?_); refine goesL_ (some 42) rfl rfl Try.func6 (by kernel_rfl) rfl #[.slice Ao51 x3_1.length co51, .int .i64 1] rfl zG ?_; (with_reducible refine (spec_AssignTag.calls k1 _ _ x3_1 1 t294 t295 t296 _ ?side1 ?side2 A44.out).mono ?_); (case side1 => repeat (first | exact (Kd.R_reads' HO_3.out).2.2 | (with_reducible refine Kd.C_alloc ?_ _) | (with_reducible refine Kd.C_drewN ?_ _) | (with_reducible refine Kd.C_drew ?_))); (case side2 => exact (Kd.R_reads' HO_3.out).2.1); rintro e w52 ⟨v297, rfl, ho0, hb⟩; refine ⟨_, rfl, ?_⟩; have HO298 := Aside0.mk (Kd.R_lower (Kd.R_new' ho0 (Kd.R_lt (zR HO_3))) (keep_size (w := w) (g := g) (row := none) (zH HK))); replace HO_3 := Aside0.mk (Kd.R_elder' (zR HO_3) (Kd.R_base ho0) hb); replace HK := Aside0.mk (KeepBut.trans (zH HK) (KeepBut.of_below hb g none) (.inl rfl)); replace HB := Aside0.mk (below_step (by repeat (first | (with_reducible first | exact HB.out | apply below_alloc | apply pw_below_drewN | apply below_drew1 | refine below_set ?_ (IsS63.ge HI0.out)) | exact HB.out)) hb); replace HI0 := Aside0.mk (IsS63.below (spec_l10Any.zI63 HI0) hb); (try clear hb); (try clear ho0); obtain ⟨Ao53, co53, eo53⟩ := Kd.R_slice HO298.out; subst eo53) | ((with_reducible refine gate_callee (f := 23) rfl ?_); refine goesL_ (some 47) rfl rfl Try.func23 (by kernel_rfl) rfl #[.slice Ao53 t294.length co53] rfl zG ?_; (with_reducible refine (spec_IsRegistry.calls k1 _ _ t294 false _ ?side1 ?side2 A45.out).mono ?_); (case side1 => repeat (first | exact (Kd.R_reads' HO298.out).2.2 | (with_reducible refine Kd.C_alloc ?_ _) | (with_reducible refine Kd.C_drewN ?_ _) | (with_reducible refine Kd.C_drew ?_))); (case side2 => exact (Kd.R_reads' HO298.out).2.1); rintro e w54 ⟨rfl, hb⟩; refine ⟨_, rfl, ?_⟩; replace HO_3 := Aside0.mk (Kd.R_below (zR HO_3) hb); replace HO298 := Aside0.mk (Kd.R_below (zR HO298) hb); replace HK := Aside0.mk (KeepBut.trans (zH HK) (KeepBut.of_below hb g none) (.inl rfl)); replace HB := Aside0.mk (below_step (by repeat (first | (with_reducible first | exact HB.out | apply below_alloc | apply pw_below_drewN | apply below_drew1 | refine below_set ?_ (IsS63.ge HI0.out)) | exact HB.out)) hb); replace HI0 := Aside0.mk (IsS63.below (spec_l10Any.zI63 HI0) hb); (try clear hb)))
         go_ret
         exact ⟨_, zE, by (with_reducible repeat (first | apply Kd.R_alloc | apply Kd.R_drewN | apply Kd.R_drew)); exact Kd.R_mono HO298.out (fun _ hk => trivial), spec_l10Any.zI63 HI0, by repeat (first | (with_reducible first | exact HB.out | apply below_alloc | apply pw_below_drewN | apply below_drew1 | refine below_set ?_ (IsS63.ge HI0.out)) | exact HB.out), zH HK⟩
       ·rw [if_neg c43] at H
        have c43b0 : decide ((x3_1.length : Int) < 12) = false := decide_eq_false c43
        have c43b1 : decide (x3_1.length < 12) = false := decide_eq_false (by omega)
        clear c43
        simp only [Option.some.injEq, Prod.mk.injEq] at H
        obtain ⟨rfl, rfl, rfl⟩ := H
        obtain ⟨Ao55, co55, eo55⟩ := Kd.R_slice HO_3.out
        subst eo55
        go_wp2
        go_ret
        exact ⟨_, zE, by (with_reducible repeat (first | apply Kd.R_alloc | apply Kd.R_drewN | apply Kd.R_drew)); exact HO_3.out, spec_l10Any.zI63 HI0, by repeat (first | (with_reducible first | exact HB.out | apply below_alloc | apply pw_below_drewN | apply below_drew1 | refine below_set ?_ (IsS63.ge HI0.out)) | exact HB.out), zH HK⟩
    ·rw [if_neg c38] at H
     have c38b0 : (t277 == 2) = false := beq_eq_false_iff_ne.mpr c38
     have c38b1 : (t277 != 2) = true := bne_iff_ne.mpr c38
     simp only [Option.some.injEq, Prod.mk.injEq] at H
     obtain ⟨rfl, rfl, rfl⟩ := H
     go_enter Try.func34, Try.ntmps34
     go_wp2_with (first | ((with_reducible refine gate_callee (f := 40) rfl ?_); refine goesL_ (some 6) rfl rfl Try.func40 (by kernel_rfl) rfl #[.pointer (some ⟨g, 0, none⟩)] rfl zG ?_; (with_reducible refine (spec_l10Draw.calls k g s0_0 s0_1 s0_2 t269 t272 t273 w0 _ ?side1 ?side2 A2.out).mono ?_); (case side1 => exact spec_l10Any.zI63 HI0); (case side2 => repeat (first | (with_reducible first | exact HB.out | apply below_alloc | apply pw_below_drewN | apply below_drew1 | refine below_set ?_ (IsS63.ge HI0.out)) | exact HB.out)); rintro e w56 ⟨v270, rfl, ho0, hi, hb, hk⟩; refine ⟨_, rfl, ?_⟩; have HO271 := Aside0.mk (Kd.R_lower ho0 (keep_size (w := w) (g := g) (row := none) (zH HK))); replace HK := Aside0.mk (KeepBut.trans (zH HK) hk (.inl rfl)); replace HB := Aside0.mk (hb); replace HI0 := Aside0.mk (hi); (try clear hb); (try clear ho0); obtain ⟨Ao57, co57, eo57⟩ := Kd.R_slice HO271.out; subst eo57) | ((with_reducible refine gate_callee (f := 35) rfl ?_); refine goesL_ (some 14) rfl rfl Try.func35 (by kernel_rfl) rfl #[.pointer (some ⟨g, 0, none⟩), .int .i64 (t269.length : Int)] rfl zG ?_; (with_reducible refine (spec_l1Below.calls g s0_0 t272 t273 (t269.length : Int) t274 t275 t276 w0 _ ?side1 ?side2 A6.out).mono ?_); (case side1 => exact spec_l10Any.zI63 HI0); (case side2 => repeat (first | (with_reducible first | exact HB.out | apply below_alloc | apply pw_below_drewN | apply below_drew1 | refine below_set ?_ (IsS63.ge HI0.out)) | exact HB.out)); rintro e w58 ⟨rfl, hi, hb, hk⟩; refine ⟨_, rfl, ?_⟩; replace HO271 := Aside0.mk (Kd.R_mono (Kd.R_keep (IsS63.apart (show IsS63 w0 _ g s0_0 t272 t273 from spec_l10Any.zI63 HI0) (zR HO271) (by decide)) hk (fun _ h => h.2)) (fun _ h => h.1)); replace HK := Aside0.mk (KeepBut.trans (zH HK) hk (.inl rfl)); replace HB := Aside0.mk (hb); replace HI0 := Aside0.mk (hi); (try clear hb)) | ((with_reducible refine gate_callee (f := 35) rfl ?_); refine goesL_ (some 16) rfl rfl Try.func35 (by kernel_rfl) rfl #[.pointer (some ⟨g, 0, none⟩), .int .i64 9] rfl zG ?_; (with_reducible refine (spec_l1Below.calls g s0_0 t275 t276 9 t277 t278 t279 w0 _ ?side1 ?side2 A7.out).mono ?_); (case side1 => exact spec_l10Any.zI63 HI0); (case side2 => repeat (first | (with_reducible first | exact HB.out | apply below_alloc | apply pw_below_drewN | apply below_drew1 | refine below_set ?_ (IsS63.ge HI0.out)) | exact HB.out)); rintro e w59 ⟨rfl, hi, hb, hk⟩; refine ⟨_, rfl, ?_⟩; replace HO271 := Aside0.mk (Kd.R_mono (Kd.R_keep (IsS63.apart (show IsS63 w0 _ g s0_0 t275 t276 from spec_l10Any.zI63 HI0) (zR HO271) (by decide)) hk (fun _ h => h.2)) (fun _ h => h.1)); replace HK := Aside0.mk (KeepBut.trans (zH HK) hk (.inl rfl)); replace HB := Aside0.mk (hb); replace HI0 := Aside0.mk (hi); (try clear hb)))
     go_ret
     exact ⟨_, zE, by (with_reducible repeat (first | apply Kd.R_alloc | apply Kd.R_drewN | apply Kd.R_drew)); exact HO271.out, spec_l10Any.zI63 HI0, by repeat (first | (with_reducible first | exact HB.out | apply below_alloc | apply pw_below_drewN | apply below_drew1 | refine below_set ?_ (IsS63.ge HI0.out)) | exact HB.out), zH HK⟩

/-! ### spec_DrawAssignTag: function 13 -/
def spec_DrawAssignTag.f (k : Nat) (l0 : List Int) : Option ((List (S43)) × Int) := (spec_l1New.f k l0).bind fun bt300 => ((spec_l10Any.f k bt300.1 bt300.2.1 bt300.2.2).bind fun bt304 => ((spec_l1Below.f bt300.1 bt304.2.1 bt304.2.2 12).bind fun bt309 => (some (bt304.1, wrap64 (bt309.1 - 1)))))
theorem spec_DrawAssignTag.mono : ∀ a0 k, LeO (spec_DrawAssignTag.f k a0) (spec_DrawAssignTag.f (k + 1) a0) := by
 intro a0 k
 unfold spec_DrawAssignTag.f
 repeat' first
   | (with_reducible exact spec_l10Any.mono _ _ _ _)
   | (with_reducible exact spec_l1New.mono _ _)
   | (with_reducible exact LeO.refl _)
   | (with_reducible exact LeO.none _)
   | (with_reducible refine LeO.ite ?_ ?_)
   | (with_reducible refine LeO.bind ?_ (fun _ => ?_))
   | exact spec_l10Any.mono _ _ _ _
   | exact spec_l1New.mono _ _
   | exact LeO.none _
   | refine LeO.ite ?_ ?_
   | refine LeO.bind ?_ (fun _ => ?_)
set_option maxHeartbeats 8000000 in
set_option maxRecDepth 100000 in
theorem spec_DrawAssignTag.calls (k : Nat) (A0 : Option Addr) (c0 : Nat) (l0 : List Int) (r1 : List (S43)) (r2 : Int) (w : World) (hr0 : Kd.C (Kd.int .u8) w A0 l0.length l0) (hc0 : l0.length ≤ c0) (h : spec_DrawAssignTag.f k l0 = some (r1, r2)) :
  Calls Try.prog 13 #[.slice A0 l0.length c0] w fun e w' => ∃ v0_ : Value, e = .returned (.tuple #[v0_, .int .i64 r2]) ∧ Kd.R k43 43 w' w.heap.size (fun _ => True) v0_ r1 ∧ Below w.heap.size w w' := by
 have HR0 := Aside0.mk hr0
 have HC0 := Aside0.mk hc0
 clear hr0 hc0
 have HB := Aside0.mk (Below.refl w.heap.size w)
 have H : ((spec_l1New.f k l0).bind fun bt300 => ((spec_l10Any.f k bt300.1 bt300.2.1 bt300.2.2).bind fun bt304 => ((spec_l1Below.f bt300.1 bt304.2.1 bt304.2.2 12).bind fun bt309 => (some (bt304.1, wrap64 (bt309.1 - 1)))))) = some (r1, r2) := h
 clear h
 replace H := Option.bind_eq_some_iff.mp H
 obtain ⟨⟨t300, t301, t302⟩, A20, H⟩ := H
 replace H : ((spec_l10Any.f k t300 t301 t302).bind fun bt304 => ((spec_l1Below.f t300 bt304.2.1 bt304.2.2 12).bind fun bt309 => (some (bt304.1, wrap64 (bt309.1 - 1))))) = some (r1, r2) := H
 have A2 := Aside0.mk A20
 clear A20
 replace H := Option.bind_eq_some_iff.mp H
 obtain ⟨⟨t304, t307, t308⟩, A30, H⟩ := H
 replace H : ((spec_l1Below.f t300 t307 t308 12).bind fun bt309 => (some (t304, wrap64 (bt309.1 - 1)))) = some (r1, r2) := H
 have A3 := Aside0.mk A30
 clear A30
 replace H := Option.bind_eq_some_iff.mp H
 obtain ⟨⟨t309, t310, t311⟩, A40, H⟩ := H
 replace H : (some (t304, wrap64 (t309 - 1))) = some (r1, r2) := H
 have A4 := Aside0.mk A40
 clear A40
 simp only [Option.some.injEq, Prod.mk.injEq] at H
 obtain ⟨rfl, rfl⟩ := H
 go_enter Try.func13, Try.ntmps13
 go_wp2_with (first | ((with_reducible refine gate_callee (f := 33) rfl ?_); refine goesL_ (some 7) rfl rfl Try.func33 (by kernel_rfl) rfl #[.slice A0 l0.length c0] rfl zG ?_; (with_reducible refine (spec_l1New.calls k _ _ l0 t300 t301 t302 w _ ?side1 ?side2 ?side3 A2.out).mono ?_); (case side1 => repeat (first | (with_reducible first | exact HB.out | apply below_alloc | apply pw_below_drewN | apply below_drew1) | exact HB.out)); (case side2 => exact HR0.out); (case side3 => exact HC0.out); rintro e w5 ⟨g303, rfl, hi, hb, hb2⟩; refine ⟨_, rfl, ?_⟩; replace HB := Aside0.mk (hb); have HI303 := Aside0.mk (hi); (try clear hb)) | ((with_reducible refine gate_callee (f := 34) rfl ?_); refine goesL_ (some 9) rfl rfl Try.func34 (by kernel_rfl) rfl #[.pointer (some ⟨g303, 0, none⟩)] rfl zG ?_; (with_reducible refine (spec_l10Any.calls k g303 t300 t301 t302 t304 t307 t308 w _ ?side1 ?side2 A3.out).mono ?_); (case side1 => repeat (first | (with_reducible first | exact HI303.out | apply IsS63.alloc | apply IsS63.drewN | apply IsS63.drew | apply IsS63.set_1 | apply IsS63.set_2) | exact HI303.out)); (case side2 => repeat (first | (with_reducible first | exact HB.out | apply below_alloc | apply pw_below_drewN | apply below_drew1 | refine below_set ?_ (IsS63.ge HI303.out)) | exact HB.out)); rintro e w6 ⟨v305, rfl, ho0, hi, hb, hk⟩; refine ⟨_, rfl, ?_⟩; have HO306 := Aside0.mk (Kd.R_lower ho0 (below_size (by repeat (first | (with_reducible first | exact HB.out | apply below_alloc | apply pw_below_drewN | apply below_drew1 | refine below_set ?_ (IsS63.ge HI303.out)) | exact HB.out)))); replace HB := Aside0.mk (hb); replace HI303 := Aside0.mk (hi); (try clear hb); (try clear ho0)) | ((with_reducible refine gate_callee (f := 35) rfl ?_); refine goesL_ (some 12) rfl rfl Try.func35 (by kernel_rfl) rfl #[.pointer (some ⟨g303, 0, none⟩), .int .i64 12] rfl zG ?_; (with_reducible refine (spec_l1Below.calls g303 t300 t307 t308 12 t309 t310 t311 w _ ?side1 ?side2 A4.out).mono ?_); (case side1 => repeat (first | (with_reducible first | exact HI303.out | apply IsS63.alloc | apply IsS63.drewN | apply IsS63.drew | apply IsS63.set_1 | apply IsS63.set_2) | exact HI303.out)); (case side2 => repeat (first | (with_reducible first | exact HB.out | apply below_alloc | apply pw_below_drewN | apply below_drew1 | refine below_set ?_ (IsS63.ge HI303.out)) | exact HB.out)); rintro e w7 ⟨rfl, hi, hb, hk⟩; refine ⟨_, rfl, ?_⟩; replace HO306 := Aside0.mk (Kd.R_mono (Kd.R_keep (IsS63.apart (show IsS63 w _ g303 t300 t307 t308 from by repeat (first | (with_reducible first | exact HI303.out | apply IsS63.alloc | apply IsS63.drewN | apply IsS63.drew | apply IsS63.set_1 | apply IsS63.set_2) | exact HI303.out)) (zR HO306) (by decide)) hk (fun _ h => h.2)) (fun _ h => h.1)); replace HB := Aside0.mk (hb); replace HI303 := Aside0.mk (hi); (try clear hb)))
 go_ret2
 exact ⟨_, zE, by (with_reducible repeat (first | apply Kd.R_alloc | apply Kd.R_drewN | apply Kd.R_drew)); exact HO306.out, by repeat (first | (with_reducible first | exact HB.out | apply below_alloc | apply pw_below_drewN | apply below_drew1 | refine below_set ?_ (IsS63.ge HI303.out)) | exact HB.out)⟩

/-! ### impl_OwnerOf: function 15 -/
def impl_OwnerOf.f (l0 : List (S43)) (a1 : Int) : Option (Int) := (impl_entryOf.f l0 a1).bind fun t312 => (if t312 < 0 then (some (-1)) else (if 0 ≤ t312 then (if t312 < (l0.length : Int) then (some ((rd_T43 l0 t312).f1)) else (none)) else (none)))
set_option maxHeartbeats 8000000 in
set_option maxRecDepth 100000 in
theorem impl_OwnerOf.calls (A0 : Option Addr) (c0 : Nat) (l0 : List (S43)) (a1 : Int) (r : Int) (w : World) (hr0 : Kd.C k43 w A0 l0.length l0) (hc0 : l0.length ≤ c0) (h : impl_OwnerOf.f l0 a1 = some r) :
  Calls Try.prog 15 #[.slice A0 l0.length c0, .int .i64 a1] w fun e w' => e = .returned (.int .i64 r) ∧ Below w.heap.size w w' := by
 have HR0 := Aside0.mk hr0
 have HC0 := Aside0.mk hc0
 clear hr0 hc0
 have HB := Aside0.mk (Below.refl w.heap.size w)
 have H : ((impl_entryOf.f l0 a1).bind fun t312 => (if t312 < 0 then (some (-1)) else (if 0 ≤ t312 then (if t312 < (l0.length : Int) then (some ((rd_T43 l0 t312).f1)) else (none)) else (none)))) = some r := h
 clear h
 obtain ⟨t312, A3, H⟩ := bindS H
 by_cases c4 : t312 < 0
 ·rw [if_pos c4] at H
  have c4b0 : decide (t312 < 0) = true := decide_eq_true c4
  clear c4
  obtain rfl := Option.some.inj H
  go_enter Try.func15, Try.ntmps15
  go_wp2_with (first | ((with_reducible refine gate_callee (f := 29) rfl ?_); refine goesL_ (some 8) rfl rfl Try.func29 (by kernel_rfl) rfl #[.slice A0 l0.length c0, .int .i64 a1] rfl zG ?_; (with_reducible refine (impl_entryOf.calls _ _ l0 a1 t312 _ ?side1 ?side2 A3.out).mono ?_); (case side1 => exact cT HR0); (case side2 => exact HC0.out); rintro e w5 ⟨rfl, hb⟩; refine ⟨_, rfl, ?_⟩; replace HB := bS HB hb; (try clear hb)))
  go_ret
  exact ⟨zE, zB HB⟩
 ·rw [if_neg c4] at H
  have c4b0 : decide (t312 < 0) = false := decide_eq_false c4
  clear c4
  by_cases c6 : 0 ≤ t312
  ·rw [if_pos c6] at H
   have c6b0 : decide (0 ≤ t312) = true := decide_eq_true c6
   clear c6
   obtain ⟨c7, H⟩ := ifS H
   have c7b0 : decide (t312 < (l0.length : Int)) = true := decide_eq_true c7
   clear c7
   obtain rfl := Option.some.inj H
   go_enter Try.func15, Try.ntmps15
   go_wp2_with (first | ((with_reducible refine gate_callee (f := 29) rfl ?_); refine goesL_ (some 8) rfl rfl Try.func29 (by kernel_rfl) rfl #[.slice A0 l0.length c0, .int .i64 a1] rfl zG ?_; (with_reducible refine (impl_entryOf.calls _ _ l0 a1 t312 _ ?side1 ?side2 A3.out).mono ?_); (case side1 => exact cT HR0); (case side2 => exact HC0.out); rintro e w8 ⟨rfl, hb⟩; refine ⟨_, rfl, ?_⟩; replace HB := bS HB hb; (try clear hb); have p313 : 0 ≤ (t312 : Int) := zD; have q313 : t312 < (l0.length : Int) := zD; obtain ⟨ad313, e313, hx313_0, hx313_1, hx313_2⟩ := at_T43 HR0.out t312 p313 q313; cases e313; replace hx313_0 := hL HB hx313_0; replace hx313_1 := hL HB hx313_1; replace hx313_2 := hL HB hx313_2; replace p313 := eq_true p313; replace q313 := eq_true q313))
   go_ret
   exact ⟨zE, zB HB⟩
  ·rw [if_neg c6] at H
   exact absurd H (by simp)

/-! ### impl_RetireTag: function 17 -/
def impl_RetireTag.f (k : Nat) (l0 : List (S43)) (a1 : Int) : Option ((List (S43)) × Bool) := (some (([] : List (S43)) : List (S43))).bind fun y314 => (if y314.length + l0.length < 5864062014805 then ((some (y314 ++ l0 : List (S43))).bind fun y317 => ((impl_entryOf.f l0 a1).bind fun t320 => ((impl_IsRegistry.f k l0).bind fun t321 => (if t321 = true then (if t320 < 0 then (some (y317, false)) else (if 0 ≤ t320 then (if t320 < (l0.length : Int) then (if (rd_T43 l0 t320).f2 = true then (some (y317, false)) else (if t320 < (y317.length : Int) then (some ((y317.set (t320 : Int).toNat (⟨(rd_T43 y317 t320).f0, (rd_T43 y317 t320).f1, true⟩ : S43)), true)) else (none))) else (none)) else (none))) else (some (y317, false)))))) else (none))
theorem impl_RetireTag.mono : ∀ a0 a1 k, LeO (impl_RetireTag.f k a0 a1) (impl_RetireTag.f (k + 1) a0 a1) := by
 intro a0 a1 k
 unfold impl_RetireTag.f
 repeat' first
   | (with_reducible exact impl_IsRegistry.mono _ _)
   | (with_reducible exact LeO.refl _)
   | (with_reducible exact LeO.none _)
   | (with_reducible refine LeO.ite ?_ ?_)
   | (with_reducible refine LeO.bind ?_ (fun _ => ?_))
   | exact impl_IsRegistry.mono _ _
   | exact LeO.none _
   | refine LeO.ite ?_ ?_
   | refine LeO.bind ?_ (fun _ => ?_)
set_option maxHeartbeats 8000000 in
set_option maxRecDepth 100000 in
theorem impl_RetireTag.calls (k : Nat) (A0 : Option Addr) (c0 : Nat) (l0 : List (S43)) (a1 : Int) (r1 : List (S43)) (r2 : Bool) (w : World) (hr0 : Kd.C k43 w A0 l0.length l0) (hc0 : l0.length ≤ c0) (h : impl_RetireTag.f k l0 a1 = some (r1, r2)) :
  Calls Try.prog 17 #[.slice A0 l0.length c0, .int .i64 a1] w fun e w' => ∃ v0_ : Value, e = .returned (.tuple #[v0_, .bool r2]) ∧ Kd.R k43 43 w' w.heap.size (fun _ => True) v0_ r1 ∧ Below w.heap.size w w' := by
 have HR0 := Aside0.mk hr0
 have HC0 := Aside0.mk hc0
 clear hr0 hc0
 have HB := Aside0.mk (Below.refl w.heap.size w)
 have H : ((some (([] : List (S43)) : List (S43))).bind fun y314 => (if y314.length + l0.length < 5864062014805 then ((some (y314 ++ l0 : List (S43))).bind fun y317 => ((impl_entryOf.f l0 a1).bind fun t320 => ((impl_IsRegistry.f k l0).bind fun t321 => (if t321 = true then (if t320 < 0 then (some (y317, false)) else (if 0 ≤ t320 then (if t320 < (l0.length : Int) then (if (rd_T43 l0 t320).f2 = true then (some (y317, false)) else (if t320 < (y317.length : Int) then (some ((y317.set (t320 : Int).toNat (⟨(rd_T43 y317 t320).f0, (rd_T43 y317 t320).f1, true⟩ : S43)), true)) else (none))) else (none)) else (none))) else (some (y317, false)))))) else (none))) = some (r1, r2) := h
 clear h
 obtain ⟨y314, hy314⟩ : ∃ y_ : List (S43), y_ = (([] : List (S43))) := ⟨_, rfl⟩
 replace H : (if y314.length + l0.length < 5864062014805 then ((some (y314 ++ l0 : List (S43))).bind fun y317 => ((impl_entryOf.f l0 a1).bind fun t320 => ((impl_IsRegistry.f k l0).bind fun t321 => (if t321 = true then (if t320 < 0 then (some (y317, false)) else (if 0 ≤ t320 then (if t320 < (l0.length : Int) then (if (rd_T43 l0 t320).f2 = true then (some (y317, false)) else (if t320 < (y317.length : Int) then (some ((y317.set (t320 : Int).toNat (⟨(rd_T43 y317 t320).f0, (rd_T43 y317 t320).f1, true⟩ : S43)), true)) else (none))) else (none)) else (none))) else (some (y317, false)))))) else (none)) = some (r1, r2) := by first | (rw [hy314]; with_reducible exact H) | (have H2_ := (Option.bind_some _ _).symm.trans H; rw [hy314]; with_reducible exact H2_) | (have H2_ := (Option.bind_some _ _).symm.trans H; with_reducible exact H2_) | with_reducible exact H | (rw [hy314]; exact H) | exact H
 have Ny314 := Aside0.mk hy314
 clear hy314
 by_cases c3 : y314.length + l0.length < 5864062014805
 ·rw [if_pos c3] at H
  have LMc3 := Aside0.mk c3
  clear c3
  obtain ⟨y317, hy317⟩ : ∃ y_ : List (S43), y_ = (y314 ++ l0) := ⟨_, rfl⟩
  replace H : ((impl_entryOf.f l0 a1).bind fun t320 => ((impl_IsRegistry.f k l0).bind fun t321 => (if t321 = true then (if t320 < 0 then (some (y317, false)) else (if 0 ≤ t320 then (if t320 < (l0.length : Int) then (if (rd_T43 l0 t320).f2 = true then (some (y317, false)) else (if t320 < (y317.length : Int) then (some ((y317.set (t320 : Int).toNat (⟨(rd_T43 y317 t320).f0, (rd_T43 y317 t320).f1, true⟩ : S43)), true)) else (none))) else (none)) else (none))) else (some (y317, false))))) = some (r1, r2) := by first | (rw [hy317]; with_reducible exact H) | (have H2_ := (Option.bind_some _ _).symm.trans H; rw [hy317]; with_reducible exact H2_) | (have H2_ := (Option.bind_some _ _).symm.trans H; with_reducible exact H2_) | with_reducible exact H | (rw [hy317]; exact H) | exact H
  have Ny317 := Aside0.mk hy317
  clear hy317
  obtain ⟨t320, A4, H⟩ := bindS H
  obtain ⟨t321, A5, H⟩ := bindS H
  by_cases c6 : t321 = true
  ·subst c6
   have H1 : (if t320 < 0 then (some (y317, false)) else (if 0 ≤ t320 then (if t320 < (l0.length : Int) then (if (rd_T43 l0 t320).f2 = true then (some (y317, false)) else (if t320 < (y317.length : Int) then (some ((y317.set (t320 : Int).toNat (⟨(rd_T43 y317 t320).f0, (rd_T43 y317 t320).f1, true⟩ : S43)), true)) else (none))) else (none)) else (none))) = some (r1, r2) := by rw [if_pos rfl] at H; exact H
   clear H
   have H := H1
   clear H1
   by_cases c7 : t320 < 0
   ·rw [if_pos c7] at H
    have c7b0 : decide (t320 < 0) = true := decide_eq_true c7
    clear c7
    simp only [Option.some.injEq, Prod.mk.injEq] at H
    obtain ⟨rfl, rfl⟩ := H
    go_enter Try.func17, Try.ntmps17
    go_wp2_with (first | ((with_reducible refine gate_dst (N := 8) rfl ?_); refine Kd.R_lit k43 _ 43 ?hg (N := 8) ?hd (xs := ([] : List (S43))) (inner := []) (ok := fun _ => True) (okp := fun _ => True) ?hr ?hp (fun _ hk => hk) trivial (Below.refl _ _) (Nat.le_refl _) (by simp) ?_; (case hd => rfl); (case hg => rfl); (case hr => first | (go_simp; done) | (go_simp; rfl)); (case hp => exact (Reps.none _ _)); intro v315 w8 ho9 hb hg_ hnew_; clear hg_ hnew_; (first | rw [← Ny314.out] at ho9 | (simp only [Int.reduceToNat] at ho9; rw [← Ny314.out] at ho9)); have HO316 := Aside0.mk (Kd.R_lower ho9 (below_size (zB HB))); replace HB := bS HB hb; clear hb ho9) | ((with_reducible refine gate_builtin (b := .append) (xs := #[.tmp 8, .tmp 9]) rfl ?_); at_builtin; refine Kd.R_append_rows k43 (w0 := w) w.heap.size rfl (.tmp 8) (.tmp 9) 24 43 (.agg #[(.int .i64 0), (.int .i64 0), (.bool false)]) 24 rfl Try.underlying24 info43 rfl (by decide) (by omega) v315 y314 l0 _ _ _ (fun _ => True) (fun _ => False) rfl rfl ?aO ?aR (fun _ _ h => h) (fun _ h => h.elim) ?aF ?aB ?aS ?aL ?_; (case aR => repeat (first | exact (Kd.C_below HR0.out HB.out) | (with_reducible refine Kd.C_alloc ?_ _) | (with_reducible refine Kd.C_drewN ?_ _) | (with_reducible refine Kd.C_drew ?_))); (case aB => exact (zB HB)); (case aF => exact (fun _ _ => trivial)); (case aO => exact (zR HO316)); (case aS => exact (below_size (zB HB))); (case aL => have := LMc3.out; omega); intro v318 w10 ho hb hg hat; rw [← Ny317.out] at ho; replace HB := Aside0.mk (hb); have HO319 := Aside0.mk (ho); clear HO316; clear ho hb hg hat) | ((with_reducible refine gate_callee (f := 29) rfl ?_); refine goesL_ (some 13) rfl rfl Try.func29 (by kernel_rfl) rfl #[.slice A0 l0.length c0, .int .i64 a1] rfl zG ?_; (with_reducible refine (impl_entryOf.calls _ _ l0 a1 t320 _ ?side1 ?side2 A4.out).mono ?_); (case side1 => exact cS HR0 HB); (case side2 => exact HC0.out); rintro e w11 ⟨rfl, hb⟩; refine ⟨_, rfl, ?_⟩; replace HO319 := Aside0.mk (Kd.R_below (zR HO319) hb); replace HB := bS HB hb; (try clear hb)) | ((with_reducible refine gate_callee (f := 14) rfl ?_); refine goesL_ (some 15) rfl rfl Try.func14 (by kernel_rfl) rfl #[.slice A0 l0.length c0] rfl zG ?_; (with_reducible refine (impl_IsRegistry.calls k _ _ l0 true _ ?side1 ?side2 A5.out).mono ?_); (case side1 => exact cS HR0 HB); (case side2 => exact HC0.out); rintro e w12 ⟨rfl, hb⟩; refine ⟨_, rfl, ?_⟩; replace HO319 := Aside0.mk (Kd.R_below (zR HO319) hb); replace HB := bS HB hb; (try clear hb)))
    go_ret2
    exact ⟨_, zE, by (with_reducible repeat (first | apply Kd.R_alloc | apply Kd.R_drewN | apply Kd.R_drew)); exact HO319.out, zB HB⟩
   ·rw [if_neg c7] at H
    have c7b0 : decide (t320 < 0) = false := decide_eq_false c7
    clear c7
    obtain ⟨c13, H⟩ := ifS H
    have c13b0 : decide (0 ≤ t320) = true := decide_eq_true c13
    clear c13
    obtain ⟨c14, H⟩ := ifS H
    have c14b0 : decide (t320 < (l0.length : Int)) = true := decide_eq_true c14
    clear c14
    obtain ⟨bq15, hbq15⟩ : ∃ b_ : Bool, b_ = ((rd_T43 l0 t320).f2) := ⟨_, rfl⟩
    replace H : (if bq15 = true then (some (y317, false)) else (if t320 < (y317.length : Int) then (some ((y317.set (t320 : Int).toNat (⟨(rd_T43 y317 t320).f0, (rd_T43 y317 t320).f1, true⟩ : S43)), true)) else (none))) = some (r1, r2) := by rw [← hbq15] at H; exact H
    have Nbq15 := Aside0.mk hbq15
    clear hbq15
    by_cases c16 : bq15 = true
    ·subst c16
     have H1 : (some (y317, false)) = some (r1, r2) := by rw [if_pos rfl] at H; exact H
     clear H
     have H := H1
     clear H1
     simp only [Option.some.injEq, Prod.mk.injEq] at H
     obtain ⟨rfl, rfl⟩ := H
     go_enter Try.func17, Try.ntmps17
     go_wp2_with (first | ((with_reducible refine gate_dst (N := 8) rfl ?_); refine Kd.R_lit k43 _ 43 ?hg (N := 8) ?hd (xs := ([] : List (S43))) (inner := []) (ok := fun _ => True) (okp := fun _ => True) ?hr ?hp (fun _ hk => hk) trivial (Below.refl _ _) (Nat.le_refl _) (by simp) ?_; (case hd => rfl); (case hg => rfl); (case hr => first | (go_simp; done) | (go_simp; rfl)); (case hp => exact (Reps.none _ _)); intro v315 w17 ho18 hb hg_ hnew_; clear hg_ hnew_; (first | rw [← Ny314.out] at ho18 | (simp only [Int.reduceToNat] at ho18; rw [← Ny314.out] at ho18)); have HO316 := Aside0.mk (Kd.R_lower ho18 (below_size (zB HB))); replace HB := bS HB hb; clear hb ho18) | ((with_reducible refine gate_builtin (b := .append) (xs := #[.tmp 8, .tmp 9]) rfl ?_); at_builtin; refine Kd.R_append_rows k43 (w0 := w) w.heap.size rfl (.tmp 8) (.tmp 9) 24 43 (.agg #[(.int .i64 0), (.int .i64 0), (.bool false)]) 24 rfl Try.underlying24 info43 rfl (by decide) (by omega) v315 y314 l0 _ _ _ (fun _ => True) (fun _ => False) rfl rfl ?aO ?aR (fun _ _ h => h) (fun _ h => h.elim) ?aF ?aB ?aS ?aL ?_; (case aR => repeat (first | exact (Kd.C_below HR0.out HB.out) | (with_reducible refine Kd.C_alloc ?_ _) | (with_reducible refine Kd.C_drewN ?_ _) | (with_reducible refine Kd.C_drew ?_))); (case aB => exact (zB HB)); (case aF => exact (fun _ _ => trivial)); (case aO => exact (zR HO316)); (case aS => exact (below_size (zB HB))); (case aL => have := LMc3.out; omega); intro v318 w19 ho hb hg hat; rw [← Ny317.out] at ho; replace HB := Aside0.mk (hb); have HO319 := Aside0.mk (ho); clear HO316; clear ho hb hg hat) | ((with_reducible refine gate_callee (f := 29) rfl ?_); refine goesL_ (some 13) rfl rfl Try.func29 (by kernel_rfl) rfl #[.slice A0 l0.length c0, .int .i64 a1] rfl zG ?_; (with_reducible refine (impl_entryOf.calls _ _ l0 a1 t320 _ ?side1 ?side2 A4.out).mono ?_); (case side1 => exact cS HR0 HB); (case side2 => exact HC0.out); rintro e w20 ⟨rfl, hb⟩; refine ⟨_, rfl, ?_⟩; replace HO319 := Aside0.mk (Kd.R_below (zR HO319) hb); replace HB := bS HB hb; (try clear hb)) | ((with_reducible refine gate_callee (f := 14) rfl ?_); refine goesL_ (some 15) rfl rfl Try.func14 (by kernel_rfl) rfl #[.slice A0 l0.length c0] rfl zG ?_; (with_reducible refine (impl_IsRegistry.calls k _ _ l0 true _ ?side1 ?side2 A5.out).mono ?_); (case side1 => exact cS HR0 HB); (case side2 => exact HC0.out); rintro e w21 ⟨rfl, hb⟩; refine ⟨_, rfl, ?_⟩; replace HO319 := Aside0.mk (Kd.R_below (zR HO319) hb); replace HB := bS HB hb; (try clear hb); have p322 : 0 ≤ (t320 : Int) := zD; have q322 : t320 < (l0.length : Int) := zD; obtain ⟨ad322, e322, hx322_0, hx322_1, hx322_2⟩ := at_T43 HR0.out t320 p322 q322; (try rw [← Nbq15.out] at hx322_2); cases e322; replace hx322_0 := hL HB hx322_0; replace hx322_1 := hL HB hx322_1; replace hx322_2 := hL HB hx322_2; replace p322 := eq_true p322; replace q322 := eq_true q322))
     go_ret2
     exact ⟨_, zE, by (with_reducible repeat (first | apply Kd.R_alloc | apply Kd.R_drewN | apply Kd.R_drew)); exact HO319.out, zB HB⟩
    ·replace c16 := Bool.eq_false_iff.mpr c16
     subst c16
     have H1 : (if t320 < (y317.length : Int) then (some ((y317.set (t320 : Int).toNat (⟨(rd_T43 y317 t320).f0, (rd_T43 y317 t320).f1, true⟩ : S43)), true)) else (none)) = some (r1, r2) := by rw [if_neg (show ¬ (false = true) by decide)] at H; exact H
     clear H
     have H := H1
     clear H1
     obtain ⟨c22, H⟩ := ifS H
     have c22b0 : decide (t320 < (y317.length : Int)) = true := decide_eq_true c22
     clear c22
     obtain ⟨y323, hy323⟩ : ∃ y_ : List (S43), y_ = (y317.set (t320 : Int).toNat (⟨(rd_T43 y317 t320).f0, (rd_T43 y317 t320).f1, true⟩ : S43)) := ⟨_, rfl⟩
     replace H : (some (y323, true)) = some (r1, r2) := by first | (rw [hy323]; with_reducible exact H) | (have H2_ := (Option.bind_some _ _).symm.trans H; rw [hy323]; with_reducible exact H2_) | (have H2_ := (Option.bind_some _ _).symm.trans H; with_reducible exact H2_) | with_reducible exact H | (rw [hy323]; exact H) | exact H
     have Ny323 := Aside0.mk hy323
     clear hy323
     simp only [Option.some.injEq, Prod.mk.injEq] at H
     obtain ⟨rfl, rfl⟩ := H
     go_enter Try.func17, Try.ntmps17
     go_wp2_with (first | ((with_reducible refine gate_dst (N := 8) rfl ?_); refine Kd.R_lit k43 _ 43 ?hg (N := 8) ?hd (xs := ([] : List (S43))) (inner := []) (ok := fun _ => True) (okp := fun _ => True) ?hr ?hp (fun _ hk => hk) trivial (Below.refl _ _) (Nat.le_refl _) (by simp) ?_; (case hd => rfl); (case hg => rfl); (case hr => first | (go_simp; done) | (go_simp; rfl)); (case hp => exact (Reps.none _ _)); intro v315 w24 ho25 hb hg_ hnew_; clear hg_ hnew_; (first | rw [← Ny314.out] at ho25 | (simp only [Int.reduceToNat] at ho25; rw [← Ny314.out] at ho25)); have HO316 := Aside0.mk (Kd.R_lower ho25 (below_size (zB HB))); replace HB := bS HB hb; clear hb ho25) | ((with_reducible refine gate_builtin (b := .append) (xs := #[.tmp 8, .tmp 9]) rfl ?_); at_builtin; refine Kd.R_append_rows k43 (w0 := w) w.heap.size rfl (.tmp 8) (.tmp 9) 24 43 (.agg #[(.int .i64 0), (.int .i64 0), (.bool false)]) 24 rfl Try.underlying24 info43 rfl (by decide) (by omega) v315 y314 l0 _ _ _ (fun _ => True) (fun _ => False) rfl rfl ?aO ?aR (fun _ _ h => h) (fun _ h => h.elim) ?aF ?aB ?aS ?aL ?_; (case aR => repeat (first | exact (Kd.C_below HR0.out HB.out) | (with_reducible refine Kd.C_alloc ?_ _) | (with_reducible refine Kd.C_drewN ?_ _) | (with_reducible refine Kd.C_drew ?_))); (case aB => exact (zB HB)); (case aF => exact (fun _ _ => trivial)); (case aO => exact (zR HO316)); (case aS => exact (below_size (zB HB))); (case aL => have := LMc3.out; omega); intro v318 w26 ho hb hg hat; rw [← Ny317.out] at ho; replace HB := Aside0.mk (hb); have HO319 := Aside0.mk (ho); clear HO316; clear ho hb hg hat) | ((with_reducible refine gate_callee (f := 29) rfl ?_); refine goesL_ (some 13) rfl rfl Try.func29 (by kernel_rfl) rfl #[.slice A0 l0.length c0, .int .i64 a1] rfl zG ?_; (with_reducible refine (impl_entryOf.calls _ _ l0 a1 t320 _ ?side1 ?side2 A4.out).mono ?_); (case side1 => exact cS HR0 HB); (case side2 => exact HC0.out); rintro e w27 ⟨rfl, hb⟩; refine ⟨_, rfl, ?_⟩; replace HO319 := Aside0.mk (Kd.R_below (zR HO319) hb); replace HB := bS HB hb; (try clear hb)) | ((with_reducible refine gate_callee (f := 14) rfl ?_); refine goesL_ (some 15) rfl rfl Try.func14 (by kernel_rfl) rfl #[.slice A0 l0.length c0] rfl zG ?_; (with_reducible refine (impl_IsRegistry.calls k _ _ l0 true _ ?side1 ?side2 A5.out).mono ?_); (case side1 => exact cS HR0 HB); (case side2 => exact HC0.out); rintro e w28 ⟨rfl, hb⟩; refine ⟨_, rfl, ?_⟩; replace HO319 := Aside0.mk (Kd.R_below (zR HO319) hb); replace HB := bS HB hb; (try clear hb); have p322 : 0 ≤ (t320 : Int) := zD; have q322 : t320 < (l0.length : Int) := zD; obtain ⟨ad322, e322, hx322_0, hx322_1, hx322_2⟩ := at_T43 HR0.out t320 p322 q322; (try rw [← Nbq15.out] at hx322_2); cases e322; replace hx322_0 := hL HB hx322_0; replace hx322_1 := hL HB hx322_1; replace hx322_2 := hL HB hx322_2; replace p322 := eq_true p322; replace q322 := eq_true q322; have p23 : 0 ≤ (t320 : Int) := zD; have q23 : (t320 : Int) < ((y317.length : Int) : Int) := zD; obtain ⟨go23, co23, eo23, gb23, gl23, cl23, HG23⟩ := Kd.R_form HO319.out (by omega); (first | cases eo23 | (injection eo23 with ea_ en_ ec_; (first | subst ea_ | (injection ea_ with ea_; subst ea_)); subst ec_; clear en_)); have GB23 := Aside0.mk gb23; have GG23 := Aside0.mk HG23; clear gb23 gl23 HG23; obtain ⟨ce23, hcl23, hM23, hcc23, hfr23⟩ := Kd.R_elem HO319.out z43 (t320 : Int) p23 q23; obtain rfl := k43_openM hM23; have hx23_0 : w28.cell? ⟨go23, (t320 : Int).toNat * 3, none⟩ = some (.int .i64 ((rd_T43 y317 t320).f0)) := hcc23 0 _ rfl; have hx23_1 : w28.cell? ⟨go23, (t320 : Int).toNat * 3 + 1, none⟩ = some (.int .i64 ((rd_T43 y317 t320).f1)) := hcc23 1 _ rfl; have hx23_2 : w28.cell? ⟨go23, (t320 : Int).toNat * 3 + 2, none⟩ = some (.bool ((rd_T43 y317 t320).f2)) := hcc23 2 _ rfl; have hf23_0 : w28.frozen? ⟨go23, (t320 : Int).toNat * 3, none⟩ = false := hfr23 0; have hf23_1 : w28.frozen? ⟨go23, (t320 : Int).toNat * 3 + 1, none⟩ = false := hfr23 1; have hf23_2 : w28.frozen? ⟨go23, (t320 : Int).toNat * 3 + 2, none⟩ = false := hfr23 2; clear hcl23 hcc23 hfr23 hM23; replace p23 := eq_true p23; replace q23 := eq_true q23; have HX29 := Aside0.mk (show Kd.R k43 43 w28 w.heap.size (fun _ => True) (.slice (some ⟨go23, 0, none⟩) y317.length co23) y317 from (zR HO319)); obtain ⟨ce29, hcl29, hM29, hcc29, hfr29⟩ := Kd.R_elem HX29.out z43 (t320 : Int) (zD) (by have h_ : (t320 : Int) < ((y317.length : Int) : Int) := zD; first | exact h_ | (have e_ := (Kd.R_reads' HO319.out).1; omega) | simpa using h_); obtain rfl := k43_openM hM29; have HP29 := Kd.R_seg HX29.out (t320 : Int) (zD) (by have h_ : (t320 : Int) < ((y317.length : Int) : Int) := zD; first | exact h_ | (have e_ := (Kd.R_reads' HO319.out).1; omega) | simpa using h_) (seg := [.bool true]) (j := 2) hcl29 hcc29 (show 3 ≤ 3 from by decide) (x' := (⟨(rd_T43 y317 t320).f0, (rd_T43 y317 t320).f1, true⟩ : S43)) (k43_mkM _ _ _ (⟨(rd_T43 y317 t320).f0, (rd_T43 y317 t320).f1, true⟩ : S43) ) (fun _ hk => hk); have hx29_2 := hcc29 2 _ rfl; (try simp only [show (k43).sz = 3 from rfl, Nat.mul_one, Nat.add_zero] at hx29_2); have hf29_2 := hfr29 2; (try simp only [show (k43).sz = 3 from rfl, Nat.mul_one, Nat.add_zero] at hf29_2); clear hcl29 hcc29 hfr29 hM29) | ((with_reducible refine gate_store (t := 4) (p := 32) rfl ?_); refine store_event (t := 4) (p := 32) (v := ?vo_w30) (w1 := (w28.setCell ⟨go23, (t320 : Int).toNat * 3 + 2, none⟩ (.bool true))) ?hg ?ho ?hn ?hr ?_; (case ho => rfl); (case hg => rfl); (case hn => rfl); (case hr => first | (go_simp; done) | (go_simp; rfl)); intro w30 hw; have hg : w28.grownBy w30 (some go23) := (by rw [hw]; exact HP29.2); have hp_ : Kd.R k43 43 w30 w.heap.size (fun _ => True) (.slice (some ⟨go23, 0, none⟩) y317.length co23) y323 := (by rw [hw, Ny323.out]; exact HP29.1); clear HP29; replace HO319 := Aside0.mk (hp_); replace HB := Aside0.mk ((by rw [hw]; exact below_set (HB.out) GB23.out : Below w.heap.size w w30)); clear hg hw hp_))
     go_ret2
     exact ⟨_, zE, by (with_reducible repeat (first | apply Kd.R_alloc | apply Kd.R_drewN | apply Kd.R_drew)); exact HO319.out, zB HB⟩
  ·replace c6 := Bool.eq_false_iff.mpr c6
   subst c6
   have H1 : (some (y317, false)) = some (r1, r2) := by rw [if_neg (show ¬ (false = true) by decide)] at H; exact H
   clear H
   have H := H1
   clear H1
   simp only [Option.some.injEq, Prod.mk.injEq] at H
   obtain ⟨rfl, rfl⟩ := H
   go_enter Try.func17, Try.ntmps17
   go_wp2_with (first | ((with_reducible refine gate_dst (N := 8) rfl ?_); refine Kd.R_lit k43 _ 43 ?hg (N := 8) ?hd (xs := ([] : List (S43))) (inner := []) (ok := fun _ => True) (okp := fun _ => True) ?hr ?hp (fun _ hk => hk) trivial (Below.refl _ _) (Nat.le_refl _) (by simp) ?_; (case hd => rfl); (case hg => rfl); (case hr => first | (go_simp; done) | (go_simp; rfl)); (case hp => exact (Reps.none _ _)); intro v315 w31 ho32 hb hg_ hnew_; clear hg_ hnew_; (first | rw [← Ny314.out] at ho32 | (simp only [Int.reduceToNat] at ho32; rw [← Ny314.out] at ho32)); have HO316 := Aside0.mk (Kd.R_lower ho32 (below_size (zB HB))); replace HB := bS HB hb; clear hb ho32) | ((with_reducible refine gate_builtin (b := .append) (xs := #[.tmp 8, .tmp 9]) rfl ?_); at_builtin; refine Kd.R_append_rows k43 (w0 := w) w.heap.size rfl (.tmp 8) (.tmp 9) 24 43 (.agg #[(.int .i64 0), (.int .i64 0), (.bool false)]) 24 rfl Try.underlying24 info43 rfl (by decide) (by omega) v315 y314 l0 _ _ _ (fun _ => True) (fun _ => False) rfl rfl ?aO ?aR (fun _ _ h => h) (fun _ h => h.elim) ?aF ?aB ?aS ?aL ?_; (case aR => repeat (first | exact (Kd.C_below HR0.out HB.out) | (with_reducible refine Kd.C_alloc ?_ _) | (with_reducible refine Kd.C_drewN ?_ _) | (with_reducible refine Kd.C_drew ?_))); (case aB => exact (zB HB)); (case aF => exact (fun _ _ => trivial)); (case aO => exact (zR HO316)); (case aS => exact (below_size (zB HB))); (case aL => have := LMc3.out; omega); intro v318 w33 ho hb hg hat; rw [← Ny317.out] at ho; replace HB := Aside0.mk (hb); have HO319 := Aside0.mk (ho); clear HO316; clear ho hb hg hat) | ((with_reducible refine gate_callee (f := 29) rfl ?_); refine goesL_ (some 13) rfl rfl Try.func29 (by kernel_rfl) rfl #[.slice A0 l0.length c0, .int .i64 a1] rfl zG ?_; (with_reducible refine (impl_entryOf.calls _ _ l0 a1 t320 _ ?side1 ?side2 A4.out).mono ?_); (case side1 => exact cS HR0 HB); (case side2 => exact HC0.out); rintro e w34 ⟨rfl, hb⟩; refine ⟨_, rfl, ?_⟩; replace HO319 := Aside0.mk (Kd.R_below (zR HO319) hb); replace HB := bS HB hb; (try clear hb)) | ((with_reducible refine gate_callee (f := 14) rfl ?_); refine goesL_ (some 15) rfl rfl Try.func14 (by kernel_rfl) rfl #[.slice A0 l0.length c0] rfl zG ?_; (with_reducible refine (impl_IsRegistry.calls k _ _ l0 false _ ?side1 ?side2 A5.out).mono ?_); (case side1 => exact cS HR0 HB); (case side2 => exact HC0.out); rintro e w35 ⟨rfl, hb⟩; refine ⟨_, rfl, ?_⟩; replace HO319 := Aside0.mk (Kd.R_below (zR HO319) hb); replace HB := bS HB hb; (try clear hb)))
   go_ret2
   exact ⟨_, zE, by (with_reducible repeat (first | apply Kd.R_alloc | apply Kd.R_drewN | apply Kd.R_drew)); exact HO319.out, zB HB⟩
 ·rw [if_neg c3] at H
  exact absurd H (by simp)

/-! ### laws_contains: function 18 -/
def laws_contains.l0 : Nat → List Int → Int → Int → Option (Bool)
 | 0, _, _, _ => none
 | k + 1, x0, x1, x5 => if x5 < (x0.length : Int) then (if 0 ≤ x5 then (if (rd x0 x5) = x1 then (some true) else (laws_contains.l0 k x0 x1 (wrap64 (x5 + 1)))) else (none)) else (some false)
def laws_contains.f (k : Nat) (l0 : List Int) (a1 : Int) : Option (Bool) := laws_contains.l0 k l0 a1 0
theorem laws_contains.mono_l : ∀ k, (∀ y0 y1 y2, LeO (laws_contains.l0 k y0 y1 y2) (laws_contains.l0 (k + 1) y0 y1 y2))
 | 0 => fun _ _ _ r h => by simp [laws_contains.l0] at h
 | k + 1 => by
  have ih0 := laws_contains.mono_l k
  ·intro y0 y1 y2
   unfold laws_contains.l0
   repeat' first
   | (with_reducible exact ih0 _ _ _)
   | (with_reducible exact LeO.refl _)
   | (with_reducible exact LeO.none _)
   | (with_reducible refine LeO.ite ?_ ?_)
   | (with_reducible refine LeO.bind ?_ (fun _ => ?_))
   | exact ih0 _ _ _
   | exact LeO.none _
   | refine LeO.ite ?_ ?_
   | refine LeO.bind ?_ (fun _ => ?_)
theorem laws_contains.mono : ∀ a0 a1 k, LeO (laws_contains.f k a0 a1) (laws_contains.f (k + 1) a0 a1) := by
 intro a0 a1 k
 have ih0 := laws_contains.mono_l k
 unfold laws_contains.f
 repeat' first
   | (with_reducible exact ih0 _ _ _)
   | (with_reducible exact LeO.refl _)
   | (with_reducible exact LeO.none _)
   | (with_reducible refine LeO.ite ?_ ?_)
   | (with_reducible refine LeO.bind ?_ (fun _ => ?_))
   | exact ih0 _ _ _
   | exact LeO.none _
   | refine LeO.ite ?_ ?_
   | refine LeO.bind ?_ (fun _ => ?_)
set_option maxHeartbeats 8000000 in
set_option maxRecDepth 100000 in
theorem laws_contains.calls (k : Nat) (A0 : Option Addr) (c0 : Nat) (l0 : List Int) (a1 : Int) (r : Bool) (w : World) (hr0 : Kd.C (Kd.int .i64) w A0 l0.length l0) (hc0 : l0.length ≤ c0) (h : laws_contains.f k l0 a1 = some r) :
  Calls Try.prog 18 #[.slice A0 l0.length c0, .int .i64 a1] w fun e w' => e = .returned (.bool r) ∧ Drawn0 w w' := by
 have HR0 := Aside0.mk hr0
 have HC0 := Aside0.mk hc0
 clear hr0 hc0
 have H : (laws_contains.l0 k l0 a1 0) = some r := h
 clear h
 have H' := Aside0.mk H
 clear H
 go_enter Try.func18, Try.ntmps18
 go_wp2
 go_loopg [5] k (fun kq v5 w' => ∃ (x5_1 : Int), v5 = .int .i64 x5_1 ∧ Aside0 (laws_contains.l0 kq l0 a1 x5_1 = some r) ∧ Aside0 (kq ≤ k) ∧ Drawn0 w w')
 case atStart => exact ⟨(0), zF, H', ⟨Nat.le_refl _⟩, by repeat (first | exact Drawn0.refl _ | apply Drawn0.step)⟩
 case round =>
  clear H'
  try clear c1
  try clear p2
  obtain ⟨x5_1, rfl, HA, HK1, ⟨m1, rfl⟩⟩ := hrel
  cases gk with
  | zero => exact absurd HA.out (by simp [laws_contains.l0])
  | succ k1 =>
   have H := HA.out
   clear HA
   simp only [laws_contains.l0] at H
   by_cases c3 : x5_1 < (l0.length : Int)
   ·rw [if_pos c3] at H
    have c3b0 : decide (x5_1 < (l0.length : Int)) = true := decide_eq_true c3
    clear c3
    obtain ⟨c4, H⟩ := ifS H
    have c4b0 : decide (0 ≤ x5_1) = true := decide_eq_true c4
    clear c4
    by_cases c5 : (rd l0 x5_1) = a1
    ·rw [if_pos c5] at H
     have c5b0 : ((rd l0 x5_1) == a1) = true := beq_iff_eq.mpr c5
     have c5b1 : ((rd l0 x5_1) != a1) = false := bne_eq_false_iff_eq.mpr c5
     clear c5
     obtain rfl := Option.some.inj H
     have p324 : 0 ≤ (x5_1 : Int) := zD
     have q324 : x5_1 < (l0.length : Int) := zD
     obtain ⟨ad324, e324, hx324_0⟩ := Kd.at_int HR0.out x5_1 p324 q324
     cases e324
     replace p324 := eq_true p324
     replace q324 := eq_true q324
     go_wp2
     go_ret
     exact ⟨by first | rfl | (simp; done) | (simp [*]; done), by repeat (first | exact Drawn0.refl _ | apply Drawn0.step)⟩
    ·rw [if_neg c5] at H
     have c5b0 : ((rd l0 x5_1) == a1) = false := beq_eq_false_iff_ne.mpr c5
     have c5b1 : ((rd l0 x5_1) != a1) = true := bne_iff_ne.mpr c5
     have H' := Aside0.mk H
     clear H
     have p324 : 0 ≤ (x5_1 : Int) := zD
     have q324 : x5_1 < (l0.length : Int) := zD
     obtain ⟨ad324, e324, hx324_0⟩ := Kd.at_int HR0.out x5_1 p324 q324
     cases e324
     replace p324 := eq_true p324
     replace q324 := eq_true q324
     go_wp2
     go_roundg k1
     case measure => have := HK1.out; omega
     case rel => exact ⟨(wrap64 (x5_1 + 1)), zF, H', ⟨by have := HK1.out; omega⟩, by repeat (first | exact Drawn0.refl _ | apply Drawn0.step)⟩
   ·rw [if_neg c3] at H
    have c3b0 : decide (x5_1 < (l0.length : Int)) = false := decide_eq_false c3
    clear c3
    obtain rfl := Option.some.inj H
    go_wp2
    go_ret
    exact ⟨by first | rfl | (simp; done) | (simp [*]; done), by repeat (first | exact Drawn0.refl _ | apply Drawn0.step)⟩

/-! ### impl_LiveTags: function 19 -/
def impl_LiveTags.l0 : Nat → List Int → List (S43) → Int → Int → Option (List Int)
 | 0, _, _, _, _ => none
 | k + 1, x3, x7, x8, x9 => if x9 < x8 then (if 0 ≤ x9 then (if x9 < (x7.length : Int) then (if ((rd_T43 x7 x9).f2 = true) then (impl_LiveTags.l0 k x3 x7 x8 (wrap64 (x9 + 1))) else (if x3.length < 17592186044416 then (impl_LiveTags.l0 k (x3 ++ [(rd_T43 x7 x9).f0]) x7 x8 (wrap64 (x9 + 1))) else (none))) else (none)) else (none)) else (some x3)
def impl_LiveTags.f (k : Nat) (l0 : List (S43)) : Option (List Int) := impl_LiveTags.l0 k (([] : List Int)) l0 (l0.length : Int) 0
theorem impl_LiveTags.mono_l : ∀ k, (∀ y0 y1 y2 y3, LeO (impl_LiveTags.l0 k y0 y1 y2 y3) (impl_LiveTags.l0 (k + 1) y0 y1 y2 y3))
 | 0 => fun _ _ _ _ r h => by simp [impl_LiveTags.l0] at h
 | k + 1 => by
  have ih0 := impl_LiveTags.mono_l k
  ·intro y0 y1 y2 y3
   unfold impl_LiveTags.l0
   repeat' first
   | (with_reducible exact ih0 _ _ _ _)
   | (with_reducible exact LeO.refl _)
   | (with_reducible exact LeO.none _)
   | (with_reducible refine LeO.ite ?_ ?_)
   | (with_reducible refine LeO.bind ?_ (fun _ => ?_))
   | exact ih0 _ _ _ _
   | exact LeO.none _
   | refine LeO.ite ?_ ?_
   | refine LeO.bind ?_ (fun _ => ?_)
theorem impl_LiveTags.mono : ∀ a0 k, LeO (impl_LiveTags.f k a0) (impl_LiveTags.f (k + 1) a0) := by
 intro a0 k
 have ih0 := impl_LiveTags.mono_l k
 unfold impl_LiveTags.f
 repeat' first
   | (with_reducible exact ih0 _ _ _ _)
   | (with_reducible exact LeO.refl _)
   | (with_reducible exact LeO.none _)
   | (with_reducible refine LeO.ite ?_ ?_)
   | (with_reducible refine LeO.bind ?_ (fun _ => ?_))
   | exact ih0 _ _ _ _
   | exact LeO.none _
   | refine LeO.ite ?_ ?_
   | refine LeO.bind ?_ (fun _ => ?_)
set_option maxHeartbeats 8000000 in
set_option maxRecDepth 100000 in
theorem impl_LiveTags.calls (k : Nat) (A0 : Option Addr) (c0 : Nat) (l0 : List (S43)) (r : List Int) (w : World) (hr0 : Kd.C k43 w A0 l0.length l0) (hc0 : l0.length ≤ c0) (h : impl_LiveTags.f k l0 = some r) :
  Calls Try.prog 19 #[.slice A0 l0.length c0] w fun e w' => ∃ v0_ : Value, e = .returned (v0_) ∧ Kd.R (Kd.int .i64) 3 w' w.heap.size (fun _ => True) v0_ r ∧ Below w.heap.size w w' := by
 have hu43 := Try.underlying43
 have HR0 := Aside0.mk hr0
 have HC0 := Aside0.mk hc0
 clear hr0 hc0
 have HB := Aside0.mk (Below.refl w.heap.size w)
 have H : (impl_LiveTags.l0 k (([] : List Int)) l0 (l0.length : Int) 0) = some r := h
 clear h
 obtain ⟨y325, hy325⟩ : ∃ y_ : List Int, y_ = (([] : List Int)) := ⟨_, rfl⟩
 replace H : (impl_LiveTags.l0 k y325 l0 (l0.length : Int) 0) = some r := by first | (rw [hy325]; with_reducible exact H) | (have H2_ := (Option.bind_some _ _).symm.trans H; rw [hy325]; with_reducible exact H2_) | (have H2_ := (Option.bind_some _ _).symm.trans H; with_reducible exact H2_) | with_reducible exact H | (rw [hy325]; exact H) | exact H
 have Ny325 := Aside0.mk hy325
 clear hy325
 have H' := Aside0.mk H
 clear H
 go_enter Try.func19, Try.ntmps19
 go_wp2_with (first | ((with_reducible refine gate_dst (N := 6) rfl ?_); refine Kd.R_lit (Kd.int .i64) _ 3 ?hg (N := 6) ?hd (xs := ([] : List Int)) (inner := []) (ok := fun _ => True) (okp := fun _ => True) ?hr ?hp (fun _ hk => hk) trivial (Below.refl _ _) (Nat.le_refl _) (by simp) ?_; (case hd => rfl); (case hg => rfl); (case hr => first | (go_simp; done) | (go_simp; rfl)); (case hp => exact (Reps.none _ _)); intro v326 w2 ho3 hb hg_ hnew_; clear hg_ hnew_; (first | rw [← Ny325.out] at ho3 | (simp only [Int.reduceToNat] at ho3; rw [← Ny325.out] at ho3)); have HO327 := Aside0.mk (Kd.R_lower ho3 (below_size (zB HB))); replace HB := bS HB hb; clear hb ho3))
 go_loopg [3, 9] k (fun kq v3 v9 w' => ∃ (x3_1 : List Int) (x9_1 : Int), v9 = .int .i64 x9_1 ∧ Aside0 (impl_LiveTags.l0 kq x3_1 l0 (l0.length : Int) x9_1 = some r) ∧ Aside0 (kq ≤ k) ∧ Aside0 (Kd.R (Kd.int .i64) 3 w' w.heap.size (fun _ => True) v3 x3_1) ∧ Aside0 (Below w.heap.size w w'))
 case atStart => exact ⟨(y325), (0), zF, H', ⟨Nat.le_refl _⟩, ⟨zR HO327⟩, ⟨zB HB⟩⟩
 case round =>
  clear H'
  try clear c1
  try clear p2
  obtain ⟨x3_1, x9_1, rfl, HA, HK1, HO_3, HB⟩ := hrel
  cases gk with
  | zero => exact absurd HA.out (by simp [impl_LiveTags.l0])
  | succ k1 =>
   have H := HA.out
   clear HA
   simp only [impl_LiveTags.l0] at H
   by_cases c4 : x9_1 < (l0.length : Int)
   ·rw [if_pos c4] at H
    have c4b0 : decide (x9_1 < (l0.length : Int)) = true := decide_eq_true c4
    clear c4
    obtain ⟨c5, H⟩ := ifS H
    have c5b0 : decide (0 ≤ x9_1) = true := decide_eq_true c5
    clear c5
    obtain ⟨c6, H⟩ := ifS H
    have c6b0 : decide (x9_1 < (l0.length : Int)) = true := decide_eq_true c6
    clear c6
    obtain ⟨bq7, hbq7⟩ : ∃ b_ : Bool, b_ = ((rd_T43 l0 x9_1).f2) := ⟨_, rfl⟩
    replace H : (if (bq7 = true) then (impl_LiveTags.l0 k1 x3_1 l0 (l0.length : Int) (wrap64 (x9_1 + 1))) else (if x3_1.length < 17592186044416 then (impl_LiveTags.l0 k1 (x3_1 ++ [(rd_T43 l0 x9_1).f0]) l0 (l0.length : Int) (wrap64 (x9_1 + 1))) else (none))) = some r := by rw [← hbq7] at H; exact H
    have Nbq7 := Aside0.mk hbq7
    clear hbq7
    by_cases c8 : (bq7 = true)
    ·subst c8
     have H1 : (impl_LiveTags.l0 k1 x3_1 l0 (l0.length : Int) (wrap64 (x9_1 + 1))) = some r := by rw [if_pos rfl] at H; exact H
     clear H
     have H := H1
     clear H1
     have H' := Aside0.mk H
     clear H
     have p328 : 0 ≤ (x9_1 : Int) := zD
     have q328 : x9_1 < (l0.length : Int) := zD
     obtain ⟨ad328, e328, hx328_0, hx328_1, hx328_2⟩ := at_T43 HR0.out x9_1 p328 q328
     (try rw [← Nbq7.out] at hx328_2)
     cases e328
     replace hx328_0 := hL HB hx328_0
     replace hx328_1 := hL HB hx328_1
     replace hx328_2 := hL HB hx328_2
     replace p328 := eq_true p328
     replace q328 := eq_true q328
     go_wp2_with (first | ((with_reducible refine gate_dst (N := 5) rfl ?_); refine box_event ?hg (N := 5) ?hd (cs := #[.int .i64 0, .int .i64 0, .bool false]) (t := 43) ?hr ?_; (case hd => rfl); (case hg => rfl); (case hr => first | (go_simp; done) | (go_simp; rfl)); intro gb329 hg w9 hbox hb; replace HO_3 := Aside0.mk (Kd.R_below (zR HO_3) hb); have BK329 := Aside0.mk (hbox); have GW329 := gS HB hg; have GE329 := gS HB hg; replace HB := bS HB hb; clear hb hbox hg; have hcz10_0 := bc0 BK329; have hcz10_1 := bc1 BK329; have hcz10_2 := bc2 BK329; have hfz10_0 := bf BK329 0; have hfz10_1 := bf BK329 1; have hfz10_2 := bf BK329 2))
     go_roundg k1
     case measure => have := HK1.out; omega
     case rel => exact ⟨(x3_1), (wrap64 (x9_1 + 1)), zF, H', ⟨by have := HK1.out; omega⟩, ⟨by (with_reducible repeat (first | apply Kd.R_alloc | apply Kd.R_drewN | apply Kd.R_drew)); exact Kd.R_mono (Kd.R_far (p := ⟨gb329, 2, none⟩) (Kd.R_far (p := ⟨gb329, 1, none⟩) (Kd.R_far (p := ⟨gb329, 0, none⟩) (Kd.R_types HO_3.out BK329.out (by decide)) (fun _ hk => hk.2) (.int .i64 ((rd_T43 l0 x9_1).f0))) (fun _ hk => hk.2) (.int .i64 ((rd_T43 l0 x9_1).f1))) (fun _ hk => hk.2) (.bool true)) (fun _ hk => trivial)⟩, ⟨zB HB⟩⟩
    ·replace c8 := Bool.eq_false_iff.mpr c8
     subst c8
     have H1 : (if x3_1.length < 17592186044416 then (impl_LiveTags.l0 k1 (x3_1 ++ [(rd_T43 l0 x9_1).f0]) l0 (l0.length : Int) (wrap64 (x9_1 + 1))) else (none)) = some r := by rw [if_neg (show ¬ (false = true) by decide)] at H; exact H
     clear H
     have H := H1
     clear H1
     obtain ⟨c11, H⟩ := ifS H
     have LMc11 := Aside0.mk c11
     clear c11
     obtain ⟨y330, hy330⟩ : ∃ y_ : List Int, y_ = (x3_1 ++ [(rd_T43 l0 x9_1).f0]) := ⟨_, rfl⟩
     replace H : (impl_LiveTags.l0 k1 y330 l0 (l0.length : Int) (wrap64 (x9_1 + 1))) = some r := by first | (rw [hy330]; with_reducible exact H) | (have H2_ := (Option.bind_some _ _).symm.trans H; rw [hy330]; with_reducible exact H2_) | (have H2_ := (Option.bind_some _ _).symm.trans H; with_reducible exact H2_) | with_reducible exact H | (rw [hy330]; exact H) | exact H
     have Ny330 := Aside0.mk hy330
     clear hy330
     have H' := Aside0.mk H
     clear H
     have p328 : 0 ≤ (x9_1 : Int) := zD
     have q328 : x9_1 < (l0.length : Int) := zD
     obtain ⟨ad328, e328, hx328_0, hx328_1, hx328_2⟩ := at_T43 HR0.out x9_1 p328 q328
     (try rw [← Nbq7.out] at hx328_2)
     cases e328
     replace hx328_0 := hL HB hx328_0
     replace hx328_1 := hL HB hx328_1
     replace hx328_2 := hL HB hx328_2
     replace p328 := eq_true p328
     replace q328 := eq_true q328
     go_wp2_with (first | ((with_reducible refine gate_dst (N := 5) rfl ?_); refine box_event ?hg (N := 5) ?hd (cs := #[.int .i64 0, .int .i64 0, .bool false]) (t := 43) ?hr ?_; (case hd => rfl); (case hg => rfl); (case hr => first | (go_simp; done) | (go_simp; rfl)); intro gb329 hg w12 hbox hb; replace HO_3 := Aside0.mk (Kd.R_below (zR HO_3) hb); have BK329 := Aside0.mk (hbox); have GW329 := gS HB hg; have GE329 := gS HB hg; replace HB := bS HB hb; clear hb hbox hg; have hcz13_0 := bc0 BK329; have hcz13_1 := bc1 BK329; have hcz13_2 := bc2 BK329; have hfz13_0 := bf BK329 0; have hfz13_1 := bf BK329 1; have hfz13_2 := bf BK329 2) | ((with_reducible refine gate_builtin (b := .append) (xs := #[.tmp 16, .tmp 19]) rfl ?_); at_builtin; refine Kd.R_append (Kd.int .i64) (w0 := w) w.heap.size rfl (.tmp 16) (.tmp 19) 40 3 (.int .i64 0) 8 rfl Try.underlying40 info3 rfl (by decide) (by omega) u3 x3_1 ((rd_T43 l0 x9_1).f0) [.int .i64 ((rd_T43 l0 x9_1).f0)] (fun _ => True) (fun _ => False) rfl (by first | (go_simp; done) | (go_simp; rfl)) ?aP (fun _ hk => hk.elim) ?aF ?aO ?aB ?aS ?aL ?_; (case aP => exact rfl); (case aB => exact (zB HB)); (case aF => exact (fun _ _ => trivial)); (case aO => exact (by (with_reducible repeat (first | apply Kd.R_alloc | apply Kd.R_drewN | apply Kd.R_drew)); exact Kd.R_mono (Kd.R_far (p := ⟨gb329, 2, none⟩) (Kd.R_far (p := ⟨gb329, 1, none⟩) (Kd.R_far (p := ⟨gb329, 0, none⟩) (Kd.R_types HO_3.out BK329.out (by decide)) (fun _ hk => hk.2) (.int .i64 ((rd_T43 l0 x9_1).f0))) (fun _ hk => hk.2) (.int .i64 ((rd_T43 l0 x9_1).f1))) (fun _ hk => hk.2) (.bool false)) (fun _ hk => trivial))); (case aS => exact (below_size (zB HB))); (case aL => have := LMc11.out; omega); intro v331 w14 ho hb hg hat; rw [← Ny330.out] at ho; replace BK329 := Aside0.mk (blk_grown (g := gb329) (o := .cells #[.int .i64 ((rd_T43 l0 x9_1).f0), .int .i64 ((rd_T43 l0 x9_1).f1), .bool false] 43 (0, 0)) (by (with_reducible repeat (first | refine blk_drewN ?_ _ | refine blk_drew ?_ | refine blk_alloc ?_ _)); refine blk_put (cs := #[.int .i64 ((rd_T43 l0 x9_1).f0), .int .i64 ((rd_T43 l0 x9_1).f1), .bool false]) ?_ 2 _ rfl; (with_reducible repeat (first | refine blk_drewN ?_ _ | refine blk_drew ?_ | refine blk_alloc ?_ _)); refine blk_put (cs := #[.int .i64 ((rd_T43 l0 x9_1).f0), .int .i64 0, .bool false]) ?_ 1 _ rfl; (with_reducible repeat (first | refine blk_drewN ?_ _ | refine blk_drew ?_ | refine blk_alloc ?_ _)); refine blk_put (cs := #[.int .i64 0, .int .i64 0, .bool false]) ?_ 0 _ rfl; (with_reducible repeat (first | refine blk_drewN ?_ _ | refine blk_drew ?_ | refine blk_alloc ?_ _)); exact BK329.out) hg (Kd.R_ne HO_3.out BK329.out (by decide))); replace HB := Aside0.mk (hb); have HO332 := Aside0.mk (ho); clear HO_3; clear ho hb hg hat))
     go_roundg k1
     case measure => have := HK1.out; omega
     case rel => exact ⟨(y330), (wrap64 (x9_1 + 1)), zF, H', ⟨by have := HK1.out; omega⟩, ⟨zR HO332⟩, ⟨zB HB⟩⟩
   ·rw [if_neg c4] at H
    have c4b0 : decide (x9_1 < (l0.length : Int)) = false := decide_eq_false c4
    clear c4
    obtain rfl := Option.some.inj H
    go_wp2
    go_ret
    exact ⟨_, zE, by (with_reducible repeat (first | apply Kd.R_alloc | apply Kd.R_drewN | apply Kd.R_drew)); exact HO_3.out, zB HB⟩

/-! ### spec_DrawClashOf: function 20 -/
def spec_DrawClashOf.l0 : Nat → List (S43) → List Int → Int → List Int → Int → Int → Option ((List (S43)) × List Int × Int)
 | 0, _, _, _, _, _, _ => none
 | k + 1, x6, x7, x8, x337000, x337001, x337002 => if x8 > 0 then ((spec_l1Below.f x337000 x337001 x337002 14).bind fun bt348 => (if x7.length < 17592186044416 then (spec_DrawClashOf.l0 k x6 (x7 ++ [bt348.1]) (wrap64 (x8 - 1)) x337000 bt348.2.1 bt348.2.2) else (none))) else ((spec_l1Below.f x337000 x337001 x337002 4).bind fun bt354 => (some (x6, x7, bt354.1)))
def spec_DrawClashOf.f (k : Nat) (l0 : List Int) : Option ((List (S43)) × List Int × Int) := (spec_l1New.f k l0).bind fun bt333 => ((spec_l10Any.f k bt333.1 bt333.2.1 bt333.2.2).bind fun bt337 => ((spec_l1Below.f bt333.1 bt337.2.1 bt337.2.2 5).bind fun bt345 => (spec_DrawClashOf.l0 k bt337.1 (([] : List Int)) bt345.1 bt333.1 bt345.2.1 bt345.2.2)))
theorem spec_DrawClashOf.mono_l : ∀ k, (∀ y0 y1 y2 y3 y4 y5, LeO (spec_DrawClashOf.l0 k y0 y1 y2 y3 y4 y5) (spec_DrawClashOf.l0 (k + 1) y0 y1 y2 y3 y4 y5))
 | 0 => fun _ _ _ _ _ _ r h => by simp [spec_DrawClashOf.l0] at h
 | k + 1 => by
  have ih0 := spec_DrawClashOf.mono_l k
  ·intro y0 y1 y2 y3 y4 y5
   unfold spec_DrawClashOf.l0
   repeat' first
   | (with_reducible exact ih0 _ _ _ _ _ _)
   | (with_reducible exact spec_l10Any.mono _ _ _ _)
   | (with_reducible exact spec_l1New.mono _ _)
   | (with_reducible exact LeO.refl _)
   | (with_reducible exact LeO.none _)
   | (with_reducible refine LeO.ite ?_ ?_)
   | (with_reducible refine LeO.bind ?_ (fun _ => ?_))
   | exact ih0 _ _ _ _ _ _
   | exact spec_l10Any.mono _ _ _ _
   | exact spec_l1New.mono _ _
   | exact LeO.none _
   | refine LeO.ite ?_ ?_
   | refine LeO.bind ?_ (fun _ => ?_)
theorem spec_DrawClashOf.mono : ∀ a0 k, LeO (spec_DrawClashOf.f k a0) (spec_DrawClashOf.f (k + 1) a0) := by
 intro a0 k
 have ih0 := spec_DrawClashOf.mono_l k
 unfold spec_DrawClashOf.f
 repeat' first
   | (with_reducible exact ih0 _ _ _ _ _ _)
   | (with_reducible exact spec_l10Any.mono _ _ _ _)
   | (with_reducible exact spec_l1New.mono _ _)
   | (with_reducible exact LeO.refl _)
   | (with_reducible exact LeO.none _)
   | (with_reducible refine LeO.ite ?_ ?_)
   | (with_reducible refine LeO.bind ?_ (fun _ => ?_))
   | exact ih0 _ _ _ _ _ _
   | exact spec_l10Any.mono _ _ _ _
   | exact spec_l1New.mono _ _
   | exact LeO.none _
   | refine LeO.ite ?_ ?_
   | refine LeO.bind ?_ (fun _ => ?_)
theorem spec_DrawClashOf.zI63 {P Q : Prop} (h : Aside0 P) (hw : P → Q := by intro h_; repeat (first | (with_reducible first | exact h_ | apply IsS63.alloc | apply IsS63.drew | apply IsS63.drewN | apply IsS63.set_1 | apply IsS63.set_2) | exact h_)) : Q := hw h.out
set_option maxHeartbeats 8000000 in
set_option maxRecDepth 100000 in
theorem spec_DrawClashOf.calls (k : Nat) (A0 : Option Addr) (c0 : Nat) (l0 : List Int) (r1 : List (S43)) (r2 : List Int) (r3 : Int) (w : World) (hr0 : Kd.C (Kd.int .u8) w A0 l0.length l0) (hc0 : l0.length ≤ c0) (h : spec_DrawClashOf.f k l0 = some (r1, r2, r3)) :
  Calls Try.prog 20 #[.slice A0 l0.length c0] w fun e w' => ∃ v0_ v1_ : Value, e = .returned (.tuple #[v0_, v1_, .int .i64 r3]) ∧ Kd.R k43 43 w' w.heap.size (fun _ => True) v0_ r1 ∧ Kd.R (Kd.int .i64) 3 w' w.heap.size (fun _ => True) v1_ r2 ∧ Below w.heap.size w w' := by
 have HR0 := Aside0.mk hr0
 have HC0 := Aside0.mk hc0
 clear hr0 hc0
 have HB := Aside0.mk (Below.refl w.heap.size w)
 have H : ((spec_l1New.f k l0).bind fun bt333 => ((spec_l10Any.f k bt333.1 bt333.2.1 bt333.2.2).bind fun bt337 => ((spec_l1Below.f bt333.1 bt337.2.1 bt337.2.2 5).bind fun bt345 => (spec_DrawClashOf.l0 k bt337.1 (([] : List Int)) bt345.1 bt333.1 bt345.2.1 bt345.2.2)))) = some (r1, r2, r3) := h
 clear h
 replace H := Option.bind_eq_some_iff.mp H
 obtain ⟨⟨t333, t334, t335⟩, A20, H⟩ := H
 replace H : ((spec_l10Any.f k t333 t334 t335).bind fun bt337 => ((spec_l1Below.f t333 bt337.2.1 bt337.2.2 5).bind fun bt345 => (spec_DrawClashOf.l0 k bt337.1 (([] : List Int)) bt345.1 t333 bt345.2.1 bt345.2.2))) = some (r1, r2, r3) := H
 have A2 := Aside0.mk A20
 clear A20
 replace H := Option.bind_eq_some_iff.mp H
 obtain ⟨⟨t337, t340, t341⟩, A30, H⟩ := H
 replace H : ((spec_l1Below.f t333 t340 t341 5).bind fun bt345 => (spec_DrawClashOf.l0 k t337 (([] : List Int)) bt345.1 t333 bt345.2.1 bt345.2.2)) = some (r1, r2, r3) := H
 have A3 := Aside0.mk A30
 clear A30
 obtain ⟨y342, hy342⟩ : ∃ y_ : List Int, y_ = (([] : List Int)) := ⟨_, rfl⟩
 replace H : ((spec_l1Below.f t333 t340 t341 5).bind fun bt345 => (spec_DrawClashOf.l0 k t337 y342 bt345.1 t333 bt345.2.1 bt345.2.2)) = some (r1, r2, r3) := by first | (rw [hy342]; with_reducible exact H) | (have H2_ := (Option.bind_some _ _).symm.trans H; rw [hy342]; with_reducible exact H2_) | (have H2_ := (Option.bind_some _ _).symm.trans H; with_reducible exact H2_) | with_reducible exact H | (rw [hy342]; exact H) | exact H
 have Ny342 := Aside0.mk hy342
 clear hy342
 replace H := Option.bind_eq_some_iff.mp H
 obtain ⟨⟨t345, t346, t347⟩, A40, H⟩ := H
 replace H : (spec_DrawClashOf.l0 k t337 y342 t345 t333 t346 t347) = some (r1, r2, r3) := H
 have A4 := Aside0.mk A40
 clear A40
 have H' := Aside0.mk H
 clear H
 go_enter Try.func20, Try.ntmps20
 go_wp2_with (first | ((with_reducible refine gate_callee (f := 33) rfl ?_); refine goesL_ (some 10) rfl rfl Try.func33 (by kernel_rfl) rfl #[.slice A0 l0.length c0] rfl zG ?_; (with_reducible refine (spec_l1New.calls k _ _ l0 t333 t334 t335 w _ ?side1 ?side2 ?side3 A2.out).mono ?_); (case side1 => repeat (first | (with_reducible first | exact HB.out | apply below_alloc | apply pw_below_drewN | apply below_drew1) | exact HB.out)); (case side2 => exact HR0.out); (case side3 => exact HC0.out); rintro e w5 ⟨g336, rfl, hi, hb, hb2⟩; refine ⟨_, rfl, ?_⟩; replace HB := Aside0.mk (hb); have HI336 := Aside0.mk (hi); (try clear hb)) | ((with_reducible refine gate_callee (f := 34) rfl ?_); refine goesL_ (some 12) rfl rfl Try.func34 (by kernel_rfl) rfl #[.pointer (some ⟨g336, 0, none⟩)] rfl zG ?_; (with_reducible refine (spec_l10Any.calls k g336 t333 t334 t335 t337 t340 t341 w _ ?side1 ?side2 A3.out).mono ?_); (case side1 => exact spec_DrawClashOf.zI63 HI336); (case side2 => repeat (first | (with_reducible first | exact HB.out | apply below_alloc | apply pw_below_drewN | apply below_drew1 | refine below_set ?_ (IsS63.ge HI336.out)) | exact HB.out)); rintro e w6 ⟨v338, rfl, ho0, hi, hb, hk⟩; refine ⟨_, rfl, ?_⟩; have HO339 := Aside0.mk (Kd.R_lower ho0 (below_size (by repeat (first | (with_reducible first | exact HB.out | apply below_alloc | apply pw_below_drewN | apply below_drew1 | refine below_set ?_ (IsS63.ge HI336.out)) | exact HB.out)))); replace HB := Aside0.mk (hb); replace HI336 := Aside0.mk (hi); (try clear hb); (try clear ho0)) | ((with_reducible refine gate_dst (N := 13) rfl ?_); refine Kd.R_lit (Kd.int .i64) _ 3 ?hg (N := 13) ?hd (xs := ([] : List Int)) (inner := []) (ok := fun _ => True) (okp := fun _ => True) ?hr ?hp (fun _ hk => hk) trivial (Below.refl _ _) (Nat.le_refl _) (by simp) ?_; (case hd => rfl); (case hg => rfl); (case hr => first | (go_simp; done) | (go_simp; rfl)); (case hp => exact (Reps.none _ _)); intro v343 w7 ho8 hb hg_ hnew_; clear hg_ hnew_; (first | rw [← Ny342.out] at ho8 | (simp only [Int.reduceToNat] at ho8; rw [← Ny342.out] at ho8)); replace HO339 := Aside0.mk (Kd.R_below (zR HO339) hb); have HO344 := Aside0.mk (Kd.R_lower ho8 (below_size (by repeat (first | (with_reducible first | exact HB.out | apply below_alloc | apply pw_below_drewN | apply below_drew1 | refine below_set ?_ (IsS63.ge HI336.out)) | exact HB.out)))); replace HB := Aside0.mk (below_step (by repeat (first | (with_reducible first | exact HB.out | apply below_alloc | apply pw_below_drewN | apply below_drew1 | refine below_set ?_ (IsS63.ge HI336.out)) | exact HB.out)) hb); replace HI336 := Aside0.mk (IsS63.below (spec_DrawClashOf.zI63 HI336) hb); clear hb ho8) | ((with_reducible refine gate_callee (f := 35) rfl ?_); refine goesL_ (some 15) rfl rfl Try.func35 (by kernel_rfl) rfl #[.pointer (some ⟨g336, 0, none⟩), .int .i64 5] rfl zG ?_; (with_reducible refine (spec_l1Below.calls g336 t333 t340 t341 5 t345 t346 t347 w _ ?side1 ?side2 A4.out).mono ?_); (case side1 => exact spec_DrawClashOf.zI63 HI336); (case side2 => repeat (first | (with_reducible first | exact HB.out | apply below_alloc | apply pw_below_drewN | apply below_drew1 | refine below_set ?_ (IsS63.ge HI336.out)) | exact HB.out)); rintro e w9 ⟨rfl, hi, hb, hk⟩; refine ⟨_, rfl, ?_⟩; replace HO339 := Aside0.mk (Kd.R_mono (Kd.R_keep (IsS63.apart (show IsS63 w _ g336 t333 t340 t341 from spec_DrawClashOf.zI63 HI336) (zR HO339) (by decide)) hk (fun _ h => h.2)) (fun _ h => h.1)); replace HO344 := Aside0.mk (Kd.R_mono (Kd.R_keep (IsS63.apart (show IsS63 w _ g336 t333 t340 t341 from spec_DrawClashOf.zI63 HI336) (zR HO344) (by decide)) hk (fun _ h => h.2)) (fun _ h => h.1)); replace HB := Aside0.mk (hb); replace HI336 := Aside0.mk (hi); (try clear hb)))
 go_loopg [7, 8] k (fun kq v7 v8 w' => ∃ (x7_1 : List Int) (x8_1 : Int) (x337001_1 : Int) (x337002_1 : Int), v8 = .int .i64 x8_1 ∧ Aside0 (spec_DrawClashOf.l0 kq t337 x7_1 x8_1 t333 x337001_1 x337002_1 = some (r1, r2, r3)) ∧ Aside0 (kq ≤ k) ∧ Aside0 (Kd.R k43 43 w' w.heap.size (fun _ => True) v338 t337) ∧ Aside0 (Kd.R (Kd.int .i64) 3 w' w.heap.size (fun _ => True) v7 x7_1) ∧ Aside0 (IsS63 w w' g336 t333 x337001_1 x337002_1) ∧ Aside0 (Below w.heap.size w w'))
 case atStart => exact ⟨(y342), (t345), (t346), (t347), zF, H', ⟨Nat.le_refl _⟩, ⟨zR HO339⟩, ⟨zR HO344⟩, ⟨spec_DrawClashOf.zI63 HI336⟩, ⟨by repeat (first | (with_reducible first | exact HB.out | apply below_alloc | apply pw_below_drewN | apply below_drew1 | refine below_set ?_ (IsS63.ge HI336.out)) | exact HB.out)⟩⟩
 case round =>
  clear H'
  try clear c2
  try clear p2
  try clear c3
  obtain ⟨x7_1, x8_1, x337001_1, x337002_1, rfl, HA, HK1, HO_6, HO_7, HI336, HB⟩ := hrel
  cases gk with
  | zero => exact absurd HA.out (by simp [spec_DrawClashOf.l0])
  | succ k1 =>
   have H := HA.out
   clear HA
   simp only [spec_DrawClashOf.l0] at H
   by_cases c10 : x8_1 > 0
   ·rw [if_pos c10] at H
    have c10b0 : decide (0 < x8_1) = true := decide_eq_true c10
    clear c10
    replace H := Option.bind_eq_some_iff.mp H
    obtain ⟨⟨t348, t349, t350⟩, A110, H⟩ := H
    replace H : (if x7_1.length < 17592186044416 then (spec_DrawClashOf.l0 k1 t337 (x7_1 ++ [t348]) (wrap64 (x8_1 - 1)) t333 t349 t350) else (none)) = some (r1, r2, r3) := H
    have A11 := Aside0.mk A110
    clear A110
    obtain ⟨c12, H⟩ := ifS H
    have LMc12 := Aside0.mk c12
    clear c12
    obtain ⟨y351, hy351⟩ : ∃ y_ : List Int, y_ = (x7_1 ++ [t348]) := ⟨_, rfl⟩
    replace H : (spec_DrawClashOf.l0 k1 t337 y351 (wrap64 (x8_1 - 1)) t333 t349 t350) = some (r1, r2, r3) := by first | (rw [hy351]; with_reducible exact H) | (have H2_ := (Option.bind_some _ _).symm.trans H; rw [hy351]; with_reducible exact H2_) | (have H2_ := (Option.bind_some _ _).symm.trans H; with_reducible exact H2_) | with_reducible exact H | (rw [hy351]; exact H) | exact H
    have Ny351 := Aside0.mk hy351
    clear hy351
    have H' := Aside0.mk H
    clear H
    go_wp2_with (first | ((with_reducible refine gate_callee (f := 35) rfl ?_); refine goesL_ (some 22) rfl rfl Try.func35 (by kernel_rfl) rfl #[.pointer (some ⟨g336, 0, none⟩), .int .i64 14] rfl zG ?_; (with_reducible refine (spec_l1Below.calls g336 t333 x337001_1 x337002_1 14 t348 t349 t350 w _ ?side1 ?side2 A11.out).mono ?_); (case side1 => exact spec_DrawClashOf.zI63 HI336); (case side2 => repeat (first | (with_reducible first | exact HB.out | apply below_alloc | apply pw_below_drewN | apply below_drew1 | refine below_set ?_ (IsS63.ge HI336.out)) | exact HB.out)); rintro e w13 ⟨rfl, hi, hb, hk⟩; refine ⟨_, rfl, ?_⟩; replace HO_6 := Aside0.mk (Kd.R_mono (Kd.R_keep (IsS63.apart (show IsS63 w _ g336 t333 x337001_1 x337002_1 from spec_DrawClashOf.zI63 HI336) (zR HO_6) (by decide)) hk (fun _ h => h.2)) (fun _ h => h.1)); replace HO_7 := Aside0.mk (Kd.R_mono (Kd.R_keep (IsS63.apart (show IsS63 w _ g336 t333 x337001_1 x337002_1 from spec_DrawClashOf.zI63 HI336) (zR HO_7) (by decide)) hk (fun _ h => h.2)) (fun _ h => h.1)); replace HB := Aside0.mk (hb); replace HI336 := Aside0.mk (hi); (try clear hb)) | ((with_reducible refine gate_builtin (b := .append) (xs := #[.tmp 20, .tmp 23]) rfl ?_); at_builtin; refine Kd.R_append (Kd.int .i64) (w0 := w) w.heap.size rfl (.tmp 20) (.tmp 23) 40 3 (.int .i64 0) 8 rfl Try.underlying40 info3 rfl (by decide) (by omega) u7 x7_1 t348 [.int .i64 t348] (fun _ => True) (fun _ => False) rfl rfl ?aP (fun _ hk => hk.elim) ?aF ?aO ?aB ?aS ?aL ?_; (case aP => exact rfl); (case aB => exact (by repeat (first | (with_reducible first | exact HB.out | apply below_alloc | apply pw_below_drewN | apply below_drew1 | refine below_set ?_ (IsS63.ge HI336.out)) | exact HB.out))); (case aF => exact (fun _ _ => trivial)); (case aO => exact (zR HO_7)); (case aS => exact (below_size (by repeat (first | (with_reducible first | exact HB.out | apply below_alloc | apply pw_below_drewN | apply below_drew1 | refine below_set ?_ (IsS63.ge HI336.out)) | exact HB.out)))); (case aL => have := LMc12.out; omega); intro v352 w14 ho hb hg hat; rw [← Ny351.out] at ho; replace HO_6 := Aside0.mk (Kd.R_over' (zR HO_6) (Kd.R_typed (zR HO_7)) (by decide) hg); replace HI336 := Aside0.mk (IsS63.grown (spec_DrawClashOf.zI63 HI336) hg (IsS63.own_ne HI336.out HO_7.out (by decide))); replace HB := Aside0.mk (hb); have HO353 := Aside0.mk (ho); clear HO_7; clear ho hb hg hat))
    go_roundg k1
    case measure => have := HK1.out; omega
    case rel => exact ⟨(y351), (wrap64 (x8_1 - 1)), (t349), (t350), zF, H', ⟨by have := HK1.out; omega⟩, ⟨zR HO_6⟩, ⟨zR HO353⟩, ⟨spec_DrawClashOf.zI63 HI336⟩, ⟨by repeat (first | (with_reducible first | exact HB.out | apply below_alloc | apply pw_below_drewN | apply below_drew1 | refine below_set ?_ (IsS63.ge HI336.out)) | exact HB.out)⟩⟩
   ·rw [if_neg c10] at H
    have c10b0 : decide (0 < x8_1) = false := decide_eq_false c10
    clear c10
    replace H := Option.bind_eq_some_iff.mp H
    obtain ⟨⟨t354, t355, t356⟩, A150, H⟩ := H
    replace H : (some (t337, x7_1, t354)) = some (r1, r2, r3) := H
    have A15 := Aside0.mk A150
    clear A150
    simp only [Option.some.injEq, Prod.mk.injEq] at H
    obtain ⟨rfl, rfl, rfl⟩ := H
    go_wp2_with (first | ((with_reducible refine gate_callee (f := 35) rfl ?_); refine goesL_ (some 28) rfl rfl Try.func35 (by kernel_rfl) rfl #[.pointer (some ⟨g336, 0, none⟩), .int .i64 4] rfl zG ?_; (with_reducible refine (spec_l1Below.calls g336 t333 x337001_1 x337002_1 4 t354 t355 t356 w _ ?side1 ?side2 A15.out).mono ?_); (case side1 => exact spec_DrawClashOf.zI63 HI336); (case side2 => repeat (first | (with_reducible first | exact HB.out | apply below_alloc | apply pw_below_drewN | apply below_drew1 | refine below_set ?_ (IsS63.ge HI336.out)) | exact HB.out)); rintro e w16 ⟨rfl, hi, hb, hk⟩; refine ⟨_, rfl, ?_⟩; replace HO_6 := Aside0.mk (Kd.R_mono (Kd.R_keep (IsS63.apart (show IsS63 w _ g336 t333 x337001_1 x337002_1 from spec_DrawClashOf.zI63 HI336) (zR HO_6) (by decide)) hk (fun _ h => h.2)) (fun _ h => h.1)); replace HO_7 := Aside0.mk (Kd.R_mono (Kd.R_keep (IsS63.apart (show IsS63 w _ g336 t333 x337001_1 x337002_1 from spec_DrawClashOf.zI63 HI336) (zR HO_7) (by decide)) hk (fun _ h => h.2)) (fun _ h => h.1)); replace HB := Aside0.mk (hb); replace HI336 := Aside0.mk (hi); (try clear hb)))
    go_ret3
    exact ⟨_, _, zE, by (with_reducible repeat (first | apply Kd.R_alloc | apply Kd.R_drewN | apply Kd.R_drew)); exact HO_6.out, by (with_reducible repeat (first | apply Kd.R_alloc | apply Kd.R_drewN | apply Kd.R_drew)); exact HO_7.out, by repeat (first | (with_reducible first | exact HB.out | apply below_alloc | apply pw_below_drewN | apply below_drew1 | refine below_set ?_ (IsS63.ge HI336.out)) | exact HB.out)⟩

end Go.Proofs.Ytgbfbdeeaogigaa.PFnRegistry
