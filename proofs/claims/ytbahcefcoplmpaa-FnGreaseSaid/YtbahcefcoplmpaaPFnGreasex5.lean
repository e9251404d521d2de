-- WRITTEN by pp.py, this session's own wrapper around the print; not trusted: Lean checks it
import Derived.Test.YtbahcefcoplmpaaPFnGreasex0
import Derived.Test.YtbahcefcoplmpaaPFnGreasex1
import Derived.Test.YtbahcefcoplmpaaPFnGreasex3
import Derived.Test.YtbahcefcoplmpaaPFnGreasex4
namespace Go.Proofs.Ytbahcefcoplmpaa.PFnGrease
open Go.RowKit Go.Proofs.Ytbahcefcoplmpaa.Hw Go.Proofs.YtbahcefcoplmpaaW.PrintWords Go.Proofs.YtbahcefcoplmpaaW.PrintLast Go.Proofs.YtbahcefcoplmpaaW.PrintMore
attribute [local go_sem] max2_int min2_int max_two min_two max_three min_three max_four min_four   -- for this text's walks alone
set_option linter.unusedVariables false
set_option linter.unusedSimpArgs false
set_option linter.unusedSectionVars false

/-! ### spec_l9Any: function 40 -/
def spec_l9Any.f (k : Nat) (s0_0 : List Int) (s0_1 : Int) (s0_2 : Int) : Option ((List (S46)) × Int × Int) := (spec_l9Draw.f k s0_0 s0_1 s0_2).bind fun bt196 => (if (bt196.1.length : Int) = 0 then (some (bt196.1, bt196.2.1, bt196.2.2)) else ((spec_l1Below.f s0_0 bt196.2.1 bt196.2.2 (bt196.1.length : Int)).bind fun bt201 => ((spec_l1Below.f s0_0 bt201.2.1 bt201.2.2 9).bind fun bt204 => (if bt204.1 = 0 then ((spec_l1Int.f s0_0 bt204.2.1 bt204.2.2 (([(-1), 0, 255, 256] : List Int))).bind fun bt210 => (if 0 ≤ bt201.1 then (if bt201.1 < (bt196.1.length : Int) then (some ((bt196.1.set (bt201.1 : Int).toNat (⟨bt210.1, (rd_T46 bt196.1 bt201.1).f1⟩ : S46)), bt210.2.1, bt210.2.2)) else (none)) else (none))) else (if bt204.1 = 1 then (if 0 ≤ bt201.1 then (if bt201.1 < (bt196.1.length : Int) then ((spec_l1Int.f s0_0 bt204.2.1 bt204.2.2 (([(-1), 255, 256] : List Int))).bind fun bt218 => (if ((rd_T46 bt196.1 bt201.1).f1).length < 17592186044416 then (some ((bt196.1.set (bt201.1 : Int).toNat (⟨(rd_T46 bt196.1 bt201.1).f0, (((rd_T46 bt196.1 bt201.1).f1) ++ [bt218.1])⟩ : S46)), bt218.2.1, bt218.2.2)) else (none))) else (none)) else (none)) else (if bt204.1 = 2 then (if 0 ≤ bt201.1 then (if bt201.1 < (bt196.1.length : Int) then (some ((bt196.1.set (bt201.1 : Int).toNat (⟨(rd_T46 bt196.1 bt201.1).f0, (([1, 2, 3, 4, 5] : List Int))⟩ : S46)), bt204.2.1, bt204.2.2)) else (none)) else (none)) else (if bt204.1 = 3 then (if 0 < (bt196.1.length : Int) then (if bt196.1.length < 4398046511104 then (some ((bt196.1 ++ [(⟨(rd_T46 bt196.1 0).f0, ([] : List Int)⟩ : S46)]), bt204.2.1, bt204.2.2)) else (none)) else (none)) else (some (bt196.1, bt204.2.1, bt204.2.2)))))))))
theorem spec_l9Any.mono : ∀ a0 a1 a2 k, LeO (spec_l9Any.f k a0 a1 a2) (spec_l9Any.f (k + 1) a0 a1 a2) := by
 intro a0 a1 a2 k
 unfold spec_l9Any.f
 repeat' first
   | (with_reducible exact spec_l9Draw.mono _ _ _ _)
   | (with_reducible exact LeO.refl _)
   | (with_reducible exact LeO.none _)
   | (with_reducible refine LeO.ite ?_ ?_)
   | (with_reducible refine LeO.bind ?_ (fun _ => ?_))
   | exact spec_l9Draw.mono _ _ _ _
   | exact LeO.none _
   | refine LeO.ite ?_ ?_
   | refine LeO.bind ?_ (fun _ => ?_)
def spec_l9Any.T9 : Bool × List (List Nat × List Nat) := (true, [([], []), ([], []), ([], []), ([], []), ([2, 3], [2, 3]), ([4], [4]), ([5], [5]), ([], []), ([], []), ([7, 8], [7, 8]), ([9], [9]), ([6, 10, 9], [6, 10]), ([0, 1, 0, 1, 2, 3, 4, 5, 6, 7, 8, 9, 10, 11], [0, 1]), ([12, 0, 1, 2, 3, 4, 5, 6, 7, 8, 9, 10, 11], [12]), ([13, 11, 11, 0, 1, 2, 3, 4, 5, 6, 7, 8, 9, 10, 11], [11, 13])])
def spec_l9Any.B9 : List Nat := [0, 0, 0, 0, 12, 28, 60, 0, 0, 384, 896, 2044, 4095, 8191, 16383]
theorem spec_l9Any.tab9 : rtab .any (opsOf Try.f40 9) = spec_l9Any.T9 := by kernel_rfl
theorem spec_l9Any.bits9 : waitsOk spec_l9Any.T9.2 spec_l9Any.B9 = true := by kernel_rfl
theorem spec_l9Any.zI75 {P Q : Prop} (h : Aside0 P) (hw : P → Q := by intro h_; repeat (first | (with_reducible first | exact h_ | apply IsS75.alloc | apply IsS75.drew | apply IsS75.drewN | apply IsS75.set_1 | apply IsS75.set_2 | refine IsS75.far ?_ (Aside0.out (by assumption)) _) | exact h_)) : Q := hw h.out
set_option maxHeartbeats 8000000 in
set_option maxRecDepth 100000 in
theorem spec_l9Any.calls (k : Nat) (g : Nat) (s0_0 : List Int) (s0_1 : Int) (s0_2 : Int) (r1 : List (S46)) (r2 : Int) (r3 : Int) (w0 w : World) (hI : IsS75 w0 w g s0_0 s0_1 s0_2) (hB : Below w0.heap.size w0 w) (h : spec_l9Any.f k s0_0 s0_1 s0_2 = some (r1, r2, r3)) :
  Calls Try.prog 40 #[.pointer (some ⟨g, 0, none⟩)] w fun e w' => ∃ v0_ : Value, e = .returned (v0_) ∧ Kd.S k46 46 w' w.heap.size (fun _ => True) v0_ r1 ∧ IsS75 w0 w' g s0_0 r2 r3 ∧ Below w0.heap.size w0 w' ∧ KeepBut w w' g none := by
 have hu46 := Try.underlying46
 have HI0 := Aside0.mk hI
 have HK := Aside0.mk (KeepBut.refl w g none)
 have HL := Aside0.mk hB.size
 clear hI
 have HW0 := Aside0.mk hB.size
 have HB := Aside0.mk hB
 clear hB
 have H : ((spec_l9Draw.f k s0_0 s0_1 s0_2).bind fun bt196 => (if (bt196.1.length : Int) = 0 then (some (bt196.1, bt196.2.1, bt196.2.2)) else ((spec_l1Below.f s0_0 bt196.2.1 bt196.2.2 (bt196.1.length : Int)).bind fun bt201 => ((spec_l1Below.f s0_0 bt201.2.1 bt201.2.2 9).bind fun bt204 => (if bt204.1 = 0 then ((spec_l1Int.f s0_0 bt204.2.1 bt204.2.2 (([(-1), 0, 255, 256] : List Int))).bind fun bt210 => (if 0 ≤ bt201.1 then (if bt201.1 < (bt196.1.length : Int) then (some ((bt196.1.set (bt201.1 : Int).toNat (⟨bt210.1, (rd_T46 bt196.1 bt201.1).f1⟩ : S46)), bt210.2.1, bt210.2.2)) else (none)) else (none))) else (if bt204.1 = 1 then (if 0 ≤ bt201.1 then (if bt201.1 < (bt196.1.length : Int) then ((spec_l1Int.f s0_0 bt204.2.1 bt204.2.2 (([(-1), 255, 256] : List Int))).bind fun bt218 => (if ((rd_T46 bt196.1 bt201.1).f1).length < 17592186044416 then (some ((bt196.1.set (bt201.1 : Int).toNat (⟨(rd_T46 bt196.1 bt201.1).f0, (((rd_T46 bt196.1 bt201.1).f1) ++ [bt218.1])⟩ : S46)), bt218.2.1, bt218.2.2)) else (none))) else (none)) else (none)) else (if bt204.1 = 2 then (if 0 ≤ bt201.1 then (if bt201.1 < (bt196.1.length : Int) then (some ((bt196.1.set (bt201.1 : Int).toNat (⟨(rd_T46 bt196.1 bt201.1).f0, (([1, 2, 3, 4, 5] : List Int))⟩ : S46)), bt204.2.1, bt204.2.2)) else (none)) else (none)) else (if bt204.1 = 3 then (if 0 < (bt196.1.length : Int) then (if bt196.1.length < 4398046511104 then (some ((bt196.1 ++ [(⟨(rd_T46 bt196.1 0).f0, ([] : List Int)⟩ : S46)]), bt204.2.1, bt204.2.2)) else (none)) else (none)) else (some (bt196.1, bt204.2.1, bt204.2.2)))))))))) = some (r1, r2, r3) := h
 clear h
 replace H := Option.bind_eq_some_iff.mp H
 obtain ⟨⟨t196, t199, t200⟩, A20, H⟩ := H
 replace H : (if (t196.length : Int) = 0 then (some (t196, t199, t200)) else ((spec_l1Below.f s0_0 t199 t200 (t196.length : Int)).bind fun bt201 => ((spec_l1Below.f s0_0 bt201.2.1 bt201.2.2 9).bind fun bt204 => (if bt204.1 = 0 then ((spec_l1Int.f s0_0 bt204.2.1 bt204.2.2 (([(-1), 0, 255, 256] : List Int))).bind fun bt210 => (if 0 ≤ bt201.1 then (if bt201.1 < (t196.length : Int) then (some ((t196.set (bt201.1 : Int).toNat (⟨bt210.1, (rd_T46 t196 bt201.1).f1⟩ : S46)), bt210.2.1, bt210.2.2)) else (none)) else (none))) else (if bt204.1 = 1 then (if 0 ≤ bt201.1 then (if bt201.1 < (t196.length : Int) then ((spec_l1Int.f s0_0 bt204.2.1 bt204.2.2 (([(-1), 255, 256] : List Int))).bind fun bt218 => (if ((rd_T46 t196 bt201.1).f1).length < 17592186044416 then (some ((t196.set (bt201.1 : Int).toNat (⟨(rd_T46 t196 bt201.1).f0, (((rd_T46 t196 bt201.1).f1) ++ [bt218.1])⟩ : S46)), bt218.2.1, bt218.2.2)) else (none))) else (none)) else (none)) else (if bt204.1 = 2 then (if 0 ≤ bt201.1 then (if bt201.1 < (t196.length : Int) then (some ((t196.set (bt201.1 : Int).toNat (⟨(rd_T46 t196 bt201.1).f0, (([1, 2, 3, 4, 5] : List Int))⟩ : S46)), bt204.2.1, bt204.2.2)) else (none)) else (none)) else (if bt204.1 = 3 then (if 0 < (t196.length : Int) then (if t196.length < 4398046511104 then (some ((t196 ++ [(⟨(rd_T46 t196 0).f0, ([] : List Int)⟩ : S46)]), bt204.2.1, bt204.2.2)) else (none)) else (none)) else (some (t196, bt204.2.1, bt204.2.2))))))))) = some (r1, r2, r3) := H
 have A2 := Aside0.mk A20
 clear A20
 by_cases c3 : (t196.length : Int) = 0
 ·rw [if_pos c3] at H
  have c3b0 : ((t196.length : Int) == 0) = true := beq_iff_eq.mpr c3
  have c3b1 : ((t196.length : Int) != 0) = false := bne_eq_false_iff_eq.mpr c3
  clear c3
  simp only [Option.some.injEq, Prod.mk.injEq] at H
  obtain ⟨rfl, rfl, rfl⟩ := H
  go_enter Try.func40, Try.ntmps40
  go_wp2_with (first | ((with_reducible refine gate_callee (f := 70) rfl ?_); refine goesL_ (some 6) rfl rfl Try.func70 (by kernel_rfl) rfl #[.pointer (some ⟨g, 0, none⟩)] rfl zG ?_; (with_reducible refine (spec_l9Draw.calls k g s0_0 s0_1 s0_2 t196 t199 t200 w0 _ ?side1 ?side2 A2.out).mono ?_); (case side1 => exact spec_l9Any.zI75 HI0); (case side2 => repeat (first | (with_reducible first | exact HB.out | apply below_alloc | apply pw_below_drewN | apply below_drew1 | refine below_set ?_ (IsS75.ge HI0.out)) | exact HB.out)); rintro e w4 ⟨v197, rfl, ho0, hi, hb, hk⟩; refine ⟨_, rfl, ?_⟩; have HO198 := Aside0.mk (Kd.S_lower ho0 (keep_size (w := w) (g := g) (row := none) (zH HK))); replace HK := Aside0.mk (KeepBut.trans (zH HK) hk (.inl rfl)); replace HB := Aside0.mk (hb); replace HI0 := Aside0.mk (hi); (try clear hb); (try clear ho0); obtain ⟨Ao5, co5, eo5⟩ := Kd.S_slice HO198.out; subst eo5))
  go_ret
  exact ⟨_, zE, by (with_reducible repeat (first | apply Kd.S_alloc | apply Kd.S_drewN | apply Kd.S_drew)); exact HO198.out, spec_l9Any.zI75 HI0, by repeat (first | (with_reducible first | exact HB.out | apply below_alloc | apply pw_below_drewN | apply below_drew1 | refine below_set ?_ (IsS75.ge HI0.out)) | exact HB.out), zH HK⟩
 ·rw [if_neg c3] at H
  have c3b0 : ((t196.length : Int) == 0) = false := beq_eq_false_iff_ne.mpr c3
  have c3b1 : ((t196.length : Int) != 0) = true := bne_iff_ne.mpr c3
  have c3b2 : ¬ (t196 = []) := fun h_ => c3 (by rw [h_]; rfl)
  replace H := Option.bind_eq_some_iff.mp H
  obtain ⟨⟨t201, t202, t203⟩, A60, H⟩ := H
  replace H : ((spec_l1Below.f s0_0 t202 t203 9).bind fun bt204 => (if bt204.1 = 0 then ((spec_l1Int.f s0_0 bt204.2.1 bt204.2.2 (([(-1), 0, 255, 256] : List Int))).bind fun bt210 => (if 0 ≤ t201 then (if t201 < (t196.length : Int) then (some ((t196.set (t201 : Int).toNat (⟨bt210.1, (rd_T46 t196 t201).f1⟩ : S46)), bt210.2.1, bt210.2.2)) else (none)) else (none))) else (if bt204.1 = 1 then (if 0 ≤ t201 then (if t201 < (t196.length : Int) then ((spec_l1Int.f s0_0 bt204.2.1 bt204.2.2 (([(-1), 255, 256] : List Int))).bind fun bt218 => (if ((rd_T46 t196 t201).f1).length < 17592186044416 then (some ((t196.set (t201 : Int).toNat (⟨(rd_T46 t196 t201).f0, (((rd_T46 t196 t201).f1) ++ [bt218.1])⟩ : S46)), bt218.2.1, bt218.2.2)) else (none))) else (none)) else (none)) else (if bt204.1 = 2 then (if 0 ≤ t201 then (if t201 < (t196.length : Int) then (some ((t196.set (t201 : Int).toNat (⟨(rd_T46 t196 t201).f0, (([1, 2, 3, 4, 5] : List Int))⟩ : S46)), bt204.2.1, bt204.2.2)) else (none)) else (none)) else (if bt204.1 = 3 then (if 0 < (t196.length : Int) then (if t196.length < 4398046511104 then (some ((t196 ++ [(⟨(rd_T46 t196 0).f0, ([] : List Int)⟩ : S46)]), bt204.2.1, bt204.2.2)) else (none)) else (none)) else (some (t196, bt204.2.1, bt204.2.2))))))) = some (r1, r2, r3) := H
  have A6 := Aside0.mk A60
  clear A60
  replace H := Option.bind_eq_some_iff.mp H
  obtain ⟨⟨t204, t205, t206⟩, A70, H⟩ := H
  replace H : (if t204 = 0 then ((spec_l1Int.f s0_0 t205 t206 (([(-1), 0, 255, 256] : List Int))).bind fun bt210 => (if 0 ≤ t201 then (if t201 < (t196.length : Int) then (some ((t196.set (t201 : Int).toNat (⟨bt210.1, (rd_T46 t196 t201).f1⟩ : S46)), bt210.2.1, bt210.2.2)) else (none)) else (none))) else (if t204 = 1 then (if 0 ≤ t201 then (if t201 < (t196.length : Int) then ((spec_l1Int.f s0_0 t205 t206 (([(-1), 255, 256] : List Int))).bind fun bt218 => (if ((rd_T46 t196 t201).f1).length < 17592186044416 then (some ((t196.set (t201 : Int).toNat (⟨(rd_T46 t196 t201).f0, (((rd_T46 t196 t201).f1) ++ [bt218.1])⟩ : S46)), bt218.2.1, bt218.2.2)) else (none))) else (none)) else (none)) else (if t204 = 2 then (if 0 ≤ t201 then (if t201 < (t196.length : Int) then (some ((t196.set (t201 : Int).toNat (⟨(rd_T46 t196 t201).f0, (([1, 2, 3, 4, 5] : List Int))⟩ : S46)), t205, t206)) else (none)) else (none)) else (if t204 = 3 then (if 0 < (t196.length : Int) then (if t196.length < 4398046511104 then (some ((t196 ++ [(⟨(rd_T46 t196 0).f0, ([] : List Int)⟩ : S46)]), t205, t206)) else (none)) else (none)) else (some (t196, t205, t206)))))) = some (r1, r2, r3) := H
  have A7 := Aside0.mk A70
  clear A70
  by_cases c8 : t204 = 0
  ·rw [if_pos c8] at H
   have c8b0 : (t204 == 0) = true := beq_iff_eq.mpr c8
   have c8b1 : (t204 != 0) = false := bne_eq_false_iff_eq.mpr c8
   clear c8
   obtain ⟨y207, hy207⟩ : ∃ y_ : List Int, y_ = (([(-1), 0, 255, 256] : List Int)) := ⟨_, rfl⟩
   replace H : ((spec_l1Int.f s0_0 t205 t206 y207).bind fun bt210 => (if 0 ≤ t201 then (if t201 < (t196.length : Int) then (some ((t196.set (t201 : Int).toNat (⟨bt210.1, (rd_T46 t196 t201).f1⟩ : S46)), bt210.2.1, bt210.2.2)) else (none)) else (none))) = some (r1, r2, r3) := by first | (rw [hy207]; with_reducible exact H) | (have H2_ := (Option.bind_some _ _).symm.trans H; rw [hy207]; with_reducible exact H2_) | (have H2_ := (Option.bind_some _ _).symm.trans H; with_reducible exact H2_) | with_reducible exact H | (rw [hy207]; exact H) | exact H
   have Ny207 := Aside0.mk hy207
   clear hy207
   replace H := Option.bind_eq_some_iff.mp H
   obtain ⟨⟨t210, t211, t212⟩, A90, H⟩ := H
   replace H : (if 0 ≤ t201 then (if t201 < (t196.length : Int) then (some ((t196.set (t201 : Int).toNat (⟨t210, (rd_T46 t196 t201).f1⟩ : S46)), t211, t212)) else (none)) else (none)) = some (r1, r2, r3) := H
   have A9 := Aside0.mk A90
   clear A90
   obtain ⟨c10, H⟩ := ifS H
   have c10b0 : decide (0 ≤ t201) = true := decide_eq_true c10
   clear c10
   obtain ⟨c11, H⟩ := ifS H
   have c11b0 : decide (t201 < (t196.length : Int)) = true := decide_eq_true c11
   clear c11
   obtain ⟨y213, hy213⟩ : ∃ y_ : List (S46), y_ = (t196.set (t201 : Int).toNat (⟨t210, (rd_T46 t196 t201).f1⟩ : S46)) := ⟨_, rfl⟩
   replace H : (some (y213, t211, t212)) = some (r1, r2, r3) := by first | (rw [hy213]; with_reducible exact H) | (have H2_ := (Option.bind_some _ _).symm.trans H; rw [hy213]; with_reducible exact H2_) | (have H2_ := (Option.bind_some _ _).symm.trans H; with_reducible exact H2_) | with_reducible exact H | (rw [hy213]; exact H) | exact H
   have Ny213 := Aside0.mk hy213
   clear hy213
   simp only [Option.some.injEq, Prod.mk.injEq] at H
   obtain ⟨rfl, rfl, rfl⟩ := H
   go_enter Try.func40, Try.ntmps40
   go_wp2_with (first | ((with_reducible refine gate_callee (f := 70) rfl ?_); refine goesL_ (some 6) rfl rfl Try.func70 (by kernel_rfl) rfl #[.pointer (some ⟨g, 0, none⟩)] rfl zG ?_; (with_reducible refine (spec_l9Draw.calls k g s0_0 s0_1 s0_2 t196 t199 t200 w0 _ ?side1 ?side2 A2.out).mono ?_); (case side1 => exact spec_l9Any.zI75 HI0); (case side2 => repeat (first | (with_reducible first | exact HB.out | apply below_alloc | apply pw_below_drewN | apply below_drew1 | refine below_set ?_ (IsS75.ge HI0.out)) | exact HB.out)); rintro e w13 ⟨v197, rfl, ho0, hi, hb, hk⟩; refine ⟨_, rfl, ?_⟩; have HO198 := Aside0.mk (Kd.S_lower ho0 (keep_size (w := w) (g := g) (row := none) (zH HK))); replace HK := Aside0.mk (KeepBut.trans (zH HK) hk (.inl rfl)); replace HB := Aside0.mk (hb); replace HI0 := Aside0.mk (hi); (try clear hb); (try clear ho0); obtain ⟨Ao14, co14, eo14⟩ := Kd.S_slice HO198.out; subst eo14) | ((with_reducible refine gate_callee (f := 42) rfl ?_); refine goesL_ (some 14) rfl rfl Try.func42 (by kernel_rfl) rfl #[.pointer (some ⟨g, 0, none⟩), .int .i64 (t196.length : Int)] rfl zG ?_; (with_reducible refine (spec_l1Below.calls g s0_0 t199 t200 (t196.length : Int) t201 t202 t203 w0 _ ?side1 ?side2 A6.out).mono ?_); (case side1 => exact spec_l9Any.zI75 HI0); (case side2 => repeat (first | (with_reducible first | exact HB.out | apply below_alloc | apply pw_below_drewN | apply below_drew1 | refine below_set ?_ (IsS75.ge HI0.out)) | exact HB.out)); rintro e w15 ⟨rfl, hi, hb, hk⟩; refine ⟨_, rfl, ?_⟩; replace HO198 := Aside0.mk (Kd.S_mono (Kd.S_keep (IsS75.apartS (show IsS75 w0 _ g s0_0 t199 t200 from spec_l9Any.zI75 HI0) (zS HO198) (by decide)) hk (fun _ h => h.2)) (fun _ h => h.1)); replace HK := Aside0.mk (KeepBut.trans (zH HK) hk (.inl rfl)); replace HB := Aside0.mk (hb); replace HI0 := Aside0.mk (hi); (try clear hb)) | ((with_reducible refine gate_callee (f := 42) rfl ?_); refine goesL_ (some 16) rfl rfl Try.func42 (by kernel_rfl) rfl #[.pointer (some ⟨g, 0, none⟩), .int .i64 9] rfl zG ?_; (with_reducible refine (spec_l1Below.calls g s0_0 t202 t203 9 t204 t205 t206 w0 _ ?side1 ?side2 A7.out).mono ?_); (case side1 => exact spec_l9Any.zI75 HI0); (case side2 => repeat (first | (with_reducible first | exact HB.out | apply below_alloc | apply pw_below_drewN | apply below_drew1 | refine below_set ?_ (IsS75.ge HI0.out)) | exact HB.out)); rintro e w16 ⟨rfl, hi, hb, hk⟩; refine ⟨_, rfl, ?_⟩; replace HO198 := Aside0.mk (Kd.S_mono (Kd.S_keep (IsS75.apartS (show IsS75 w0 _ g s0_0 t202 t203 from spec_l9Any.zI75 HI0) (zS HO198) (by decide)) hk (fun _ h => h.2)) (fun _ h => h.1)); replace HK := Aside0.mk (KeepBut.trans (zH HK) hk (.inl rfl)); replace HB := Aside0.mk (hb); replace HI0 := Aside0.mk (hi); (try clear hb)) | ((with_reducible refine gate_dst (N := 22) rfl ?_); refine Kd.R_lit (Kd.int .i64) _ 3 ?hg (N := 22) ?hd (xs := ([(-1), 0, 255, 256] : List Int)) (inner := [.int .i64 (-1), .int .i64 0, .int .i64 255, .int .i64 256]) (ok := fun _ => True) (okp := fun _ => True) ?hr ?hp (fun _ hk => hk) trivial (Below.refl _ _) (Nat.le_refl _) (by simp) ?_; (case hd => rfl); (case hg => rfl); (case hr => first | (go_simp; done) | (go_simp; rfl)); (case hp => exact (Reps.one (show Kd.M (Kd.int .i64) _ _ _ (-1) [.int .i64 (-1)] from rfl) (Reps.one (show Kd.M (Kd.int .i64) _ _ _ 0 [.int .i64 0] from rfl) (Reps.one (show Kd.M (Kd.int .i64) _ _ _ 255 [.int .i64 255] from rfl) (Reps.one (show Kd.M (Kd.int .i64) _ _ _ 256 [.int .i64 256] from rfl) (Reps.none _ _)))))); intro v208 w17 ho18 hb hg_ hnew_; clear hg_ hnew_; (first | rw [← Ny207.out] at ho18 | (simp only [Int.reduceToNat] at ho18; rw [← Ny207.out] at ho18)); replace HO198 := Aside0.mk (Kd.S_elder' (zS HO198) (Kd.R_base ho18) hb); have HO209 := Aside0.mk (Kd.R_lower ho18 (keep_size (w := w) (g := g) (row := none) (zH HK))); replace HK := Aside0.mk (KeepBut.trans (zH HK) (KeepBut.of_below hb g none) (.inl rfl)); replace HB := Aside0.mk (below_step (by repeat (first | (with_reducible first | exact HB.out | apply below_alloc | apply pw_below_drewN | apply below_drew1 | refine below_set ?_ (IsS75.ge HI0.out)) | exact HB.out)) hb); replace HI0 := Aside0.mk (IsS75.below (spec_l9Any.zI75 HI0) hb); clear hb ho18; obtain ⟨Ao19, co19, eo19⟩ := Kd.R_slice HO209.out; subst eo19) | ((with_reducible refine gate_callee (f := 71) rfl ?_); refine goesL_ (some 23) rfl rfl Try.func71 (by kernel_rfl) rfl #[.pointer (some ⟨g, 0, none⟩), .slice Ao19 y207.length co19] rfl zG ?_; (with_reducible refine (spec_l1Int.calls g s0_0 t205 t206 _ _ y207 t210 t211 t212 w0 _ ?side1 ?side2 ?side3 ?side4 ?side5 A9.out).mono ?_); (case side1 => exact spec_l9Any.zI75 HI0); (case side2 => repeat (first | (with_reducible first | exact HB.out | apply below_alloc | apply pw_below_drewN | apply below_drew1 | refine below_set ?_ (IsS75.ge HI0.out)) | exact HB.out)); (case side3 => repeat (first | exact (Kd.R_reads' HO209.out).2.2 | (with_reducible refine Kd.C_alloc ?_ _) | (with_reducible refine Kd.C_drewN ?_ _) | (with_reducible refine Kd.C_drew ?_))); (case side4 => exact (Kd.R_reads' HO209.out).2.1); (case side5 => exact far_slice (IsS75.own_ne HI0.out HO209.out (by decide))); rintro e w20 ⟨rfl, hi, hb, hk⟩; refine ⟨_, rfl, ?_⟩; replace HO198 := Aside0.mk (Kd.S_mono (Kd.S_keep (IsS75.apartS (show IsS75 w0 _ g s0_0 t205 t206 from spec_l9Any.zI75 HI0) (zS HO198) (by decide)) hk (fun _ h => h.2)) (fun _ h => h.1)); replace HO209 := Aside0.mk (Kd.R_mono (Kd.R_keep (IsS75.apart (show IsS75 w0 _ g s0_0 t205 t206 from spec_l9Any.zI75 HI0) (zR HO209) (by decide)) hk (fun _ h => h.2)) (fun _ h => h.1)); replace HK := Aside0.mk (KeepBut.trans (zH HK) hk (.inl rfl)); replace HB := Aside0.mk (hb); replace HI0 := Aside0.mk (hi); (try clear hb); have p12 : 0 ≤ (t201 : Int) := zD; have q12 : (t201 : Int) < ((t196.length : Int) : Int) := zD; obtain ⟨go12, co12, eo12, gb12, gl12, cl12, HG12⟩ := Kd.S_form HO198.out (by omega); (first | cases eo12 | (injection eo12 with ea_ en_ ec_; (first | subst ea_ | (injection ea_ with ea_; subst ea_)); subst ec_; clear en_)); have GB12 := Aside0.mk gb12; have GG12 := Aside0.mk HG12; clear gb12 gl12 HG12; obtain ⟨_, ce12, hcl12, hM12, hcc12, hfr12, _, _⟩ := Kd.S_elem HO198.out z46 (t201 : Int) p12 q12; obtain ⟨ve12_1, rfl, ge12_1⟩ := k46_openM hM12; have hx12_0 : w20.cell? ⟨go12, (t201 : Int).toNat * 2, none⟩ = some (.int .i64 ((rd_T46 t196 t201).f0)) := hcc12 0 _ rfl; have hx12_1 : w20.cell? ⟨go12, (t201 : Int).toNat * 2 + 1, none⟩ = some (ve12_1) := hcc12 1 _ rfl; have hf12_0 : w20.frozen? ⟨go12, (t201 : Int).toNat * 2, none⟩ = false := hfr12 0; have hf12_1 : w20.frozen? ⟨go12, (t201 : Int).toNat * 2 + 1, none⟩ = false := hfr12 1; clear hcl12 hcc12 hfr12 hM12; replace p12 := eq_true p12; replace q12 := eq_true q12; have n_ := Aside0.mk (Kd.S_mono (ok' := (fun k_ => some k_ ≠ (.slice Ao19 y207.length co19 : Value).ownBlock)) HO198.out (fun k_ hk => hk.2)); clear HO198; have HO198 := n_; clear n_; have HX21 := Aside0.mk (show Kd.S k46 46 w20 w.heap.size (fun k_ => ((fun k_ => some k_ ≠ (.slice Ao19 y207.length co19 : Value).ownBlock)) k_ ∧ ¬ ((fun _ => False)) k_) (.slice (some ⟨go12, 0, none⟩) t196.length co14) t196 from (by (with_reducible repeat (first | apply Kd.S_alloc | apply Kd.S_drewN | apply Kd.S_drew)); exact Kd.S_mono HO198.out (fun k_ hk => ⟨hk, fun e_ => e_⟩))); obtain ⟨oki21, ce21, hcl21, hM21, hcc21, hfr21, hoki21, hH21⟩ := Kd.S_elem HX21.out z46 (t201 : Int) (zD) (by have h_ : (t201 : Int) < ((t196.length : Int) : Int) := zD; first | exact h_ | (have e_ := (Kd.S_reads' HO198.out).1; omega) | simpa using h_); obtain ⟨ve21_1, rfl, ge21_1⟩ := k46_openM hM21; have HP21 := Kd.S_seg hH21 (zD) (by have h_ : (t201 : Int) < ((t196.length : Int) : Int) := zD; first | exact h_ | (have e_ := (Kd.S_reads' HO198.out).1; omega) | simpa using h_) (seg := [.int .i64 t210]) (j := 0) (show 1 ≤ 2 from by decide) (x' := (⟨t210, (rd_T46 t196 t201).f1⟩ : S46)) (k46_mkM _ _ _ (⟨t210, (rd_T46 t196 t201).f1⟩ : S46) (Kd.R_mono ge21_1 (fun _ h_ => Or.inl h_))) (fun _ hk => hk) (fun k_ hk_ => hk_.elim); have hx21_0 := hcc21 0 _ rfl; (try simp only [show (k46).sz = 2 from rfl, Nat.mul_one, Nat.add_zero] at hx21_0); have hf21_0 := hfr21 0; (try simp only [show (k46).sz = 2 from rfl, Nat.mul_one, Nat.add_zero] at hf21_0); clear hcl21 hcc21 hfr21 hM21 hoki21 hH21) | ((with_reducible refine gate_store (t := 3) (p := 25) rfl ?_); refine store_event (t := 3) (p := 25) (v := ?vo_w22) (w1 := (w20.setCell ⟨go12, (t201 : Int).toNat * 2, none⟩ (.int .i64 t210))) ?hg ?ho ?hn ?hr ?_; (case ho => rfl); (case hg => rfl); (case hn => rfl); (case hr => first | (go_simp; done) | (go_simp; rfl)); intro w22 hw; have hg : w20.grownBy w22 (some go12) := (by rw [hw]; exact HP21.2); have hp_ : Kd.S k46 46 w22 w.heap.size (fun k_ => some k_ ≠ (.slice Ao19 y207.length co19 : Value).ownBlock) (.slice (some ⟨go12, 0, none⟩) t196.length co14) y213 := (by rw [hw, Ny213.out]; exact HP21.1); clear HP21; replace HI0 := Aside0.mk (IsS75.grown (spec_l9Any.zI75 HI0) hg (IsS75.own_neS HI0.out HO198.out (by decide))); replace HO209 := Aside0.mk (Kd.R_over' (v := (.slice (some ⟨go12, 0, none⟩) t196.length co14)) (zR HO209) (Kd.S_typed HO198.out) (by decide) hg); replace HB := Aside0.mk ((by rw [hw]; exact below_set (HB.out) (Nat.le_trans HL.out GB12.out) : Below w0.heap.size w0 w22)); replace HK := Aside0.mk (KeepBut.trans (zH HK) (KeepBut.of_grown hg g) (Kd.S_base2 HO198.out)); replace HO198 := Aside0.mk (hp_); clear hg hw hp_))
   go_ret
   exact ⟨_, zE, by (with_reducible repeat (first | apply Kd.S_alloc | apply Kd.S_drewN | apply Kd.S_drew)); exact Kd.S_mono HO198.out (fun _ hk => trivial), spec_l9Any.zI75 HI0, by repeat (first | (with_reducible first | exact HB.out | apply below_alloc | apply pw_below_drewN | apply below_drew1 | refine below_set ?_ (IsS75.ge HI0.out)) | exact HB.out), zH HK⟩
  ·rw [if_neg c8] at H
   have c8b0 : (t204 == 0) = false := beq_eq_false_iff_ne.mpr c8
   have c8b1 : (t204 != 0) = true := bne_iff_ne.mpr c8
   by_cases c23 : t204 = 1
   ·rw [if_pos c23] at H
    have c23b0 : (t204 == 1) = true := beq_iff_eq.mpr c23
    have c23b1 : (t204 != 1) = false := bne_eq_false_iff_eq.mpr c23
    clear c23
    obtain ⟨c24, H⟩ := ifS H
    have c24b0 : decide (0 ≤ t201) = true := decide_eq_true c24
    clear c24
    obtain ⟨c25, H⟩ := ifS H
    have c25b0 : decide (t201 < (t196.length : Int)) = true := decide_eq_true c25
    clear c25
    obtain ⟨y215, hy215⟩ : ∃ y_ : List Int, y_ = (([(-1), 255, 256] : List Int)) := ⟨_, rfl⟩
    replace H : ((spec_l1Int.f s0_0 t205 t206 y215).bind fun bt218 => (if ((rd_T46 t196 t201).f1).length < 17592186044416 then (some ((t196.set (t201 : Int).toNat (⟨(rd_T46 t196 t201).f0, (((rd_T46 t196 t201).f1) ++ [bt218.1])⟩ : S46)), bt218.2.1, bt218.2.2)) else (none))) = some (r1, r2, r3) := by first | (rw [hy215]; with_reducible exact H) | (have H2_ := (Option.bind_some _ _).symm.trans H; rw [hy215]; with_reducible exact H2_) | (have H2_ := (Option.bind_some _ _).symm.trans H; with_reducible exact H2_) | with_reducible exact H | (rw [hy215]; exact H) | exact H
    have Ny215 := Aside0.mk hy215
    clear hy215
    replace H := Option.bind_eq_some_iff.mp H
    obtain ⟨⟨t218, t219, t220⟩, A260, H⟩ := H
    replace H : (if ((rd_T46 t196 t201).f1).length < 17592186044416 then (some ((t196.set (t201 : Int).toNat (⟨(rd_T46 t196 t201).f0, (((rd_T46 t196 t201).f1) ++ [t218])⟩ : S46)), t219, t220)) else (none)) = some (r1, r2, r3) := H
    have A26 := Aside0.mk A260
    clear A260
    obtain ⟨c27, H⟩ := ifS H
    have LMc27 := Aside0.mk c27
    clear c27
    obtain ⟨y221, hy221⟩ : ∃ y_ : List Int, y_ = (((rd_T46 t196 t201).f1) ++ [t218]) := ⟨_, rfl⟩
    replace H : (some ((t196.set (t201 : Int).toNat (⟨(rd_T46 t196 t201).f0, y221⟩ : S46)), t219, t220)) = some (r1, r2, r3) := by first | (rw [hy221]; with_reducible exact H) | (have H2_ := (Option.bind_some _ _).symm.trans H; rw [hy221]; with_reducible exact H2_) | (have H2_ := (Option.bind_some _ _).symm.trans H; with_reducible exact H2_) | with_reducible exact H | (rw [hy221]; exact H) | exact H
    have Ny221 := Aside0.mk hy221
    clear hy221
    obtain ⟨y224, hy224⟩ : ∃ y_ : List (S46), y_ = (t196.set (t201 : Int).toNat (⟨(rd_T46 t196 t201).f0, y221⟩ : S46)) := ⟨_, rfl⟩
    replace H : (some (y224, t219, t220)) = some (r1, r2, r3) := by first | (rw [hy224]; with_reducible exact H) | (have H2_ := (Option.bind_some _ _).symm.trans H; rw [hy224]; with_reducible exact H2_) | (have H2_ := (Option.bind_some _ _).symm.trans H; with_reducible exact H2_) | with_reducible exact H | (rw [hy224]; exact H) | exact H
    have Ny224 := Aside0.mk hy224
    clear hy224
    simp only [Option.some.injEq, Prod.mk.injEq] at H
    obtain ⟨rfl, rfl, rfl⟩ := H
    go_enter Try.func40, Try.ntmps40
    try go_wp2_with (first | ((with_reducible refine gate_callee (f := 70) rfl ?_); refine goesL_ (some 6) rfl rfl Try.func70 (by kernel_rfl) rfl #[.pointer (some ⟨g, 0, none⟩)] rfl zG ?_; (with_reducible refine (spec_l9Draw.calls k g s0_0 s0_1 s0_2 t196 t199 t200 w0 _ ?side1 ?side2 A2.out).mono ?_); (case side1 => exact spec_l9Any.zI75 HI0); (case side2 => repeat (first | (with_reducible first | exact HB.out | apply below_alloc | apply pw_below_drewN | apply below_drew1 | refine below_set ?_ (IsS75.ge HI0.out)) | exact HB.out)); rintro e w29 ⟨v197, rfl, ho0, hi, hb, hk⟩; refine ⟨_, rfl, ?_⟩; have HO198 := Aside0.mk (Kd.S_lower ho0 (keep_size (w := w) (g := g) (row := none) (zH HK))); replace HK := Aside0.mk (KeepBut.trans (zH HK) hk (.inl rfl)); replace HB := Aside0.mk (hb); replace HI0 := Aside0.mk (hi); (try clear hb); (try clear ho0); obtain ⟨Ao30, co30, eo30⟩ := Kd.S_slice HO198.out; subst eo30) | ((with_reducible refine gate_callee (f := 42) rfl ?_); refine goesL_ (some 14) rfl rfl Try.func42 (by kernel_rfl) rfl #[.pointer (some ⟨g, 0, none⟩), .int .i64 (t196.length : Int)] rfl zG ?_; (with_reducible refine (spec_l1Below.calls g s0_0 t199 t200 (t196.length : Int) t201 t202 t203 w0 _ ?side1 ?side2 A6.out).mono ?_); (case side1 => exact spec_l9Any.zI75 HI0); (case side2 => repeat (first | (with_reducible first | exact HB.out | apply below_alloc | apply pw_below_drewN | apply below_drew1 | refine below_set ?_ (IsS75.ge HI0.out)) | exact HB.out)); rintro e w31 ⟨rfl, hi, hb, hk⟩; refine ⟨_, rfl, ?_⟩; replace HO198 := Aside0.mk (Kd.S_mono (Kd.S_keep (IsS75.apartS (show IsS75 w0 _ g s0_0 t199 t200 from spec_l9Any.zI75 HI0) (zS HO198) (by decide)) hk (fun _ h => h.2)) (fun _ h => h.1)); replace HK := Aside0.mk (KeepBut.trans (zH HK) hk (.inl rfl)); replace HB := Aside0.mk (hb); replace HI0 := Aside0.mk (hi); (try clear hb)) | ((with_reducible refine gate_callee (f := 42) rfl ?_); refine goesL_ (some 16) rfl rfl Try.func42 (by kernel_rfl) rfl #[.pointer (some ⟨g, 0, none⟩), .int .i64 9] rfl zG ?_; (with_reducible refine (spec_l1Below.calls g s0_0 t202 t203 9 t204 t205 t206 w0 _ ?side1 ?side2 A7.out).mono ?_); (case side1 => exact spec_l9Any.zI75 HI0); (case side2 => repeat (first | (with_reducible first | exact HB.out | apply below_alloc | apply pw_below_drewN | apply below_drew1 | refine below_set ?_ (IsS75.ge HI0.out)) | exact HB.out)); rintro e w32 ⟨rfl, hi, hb, hk⟩; refine ⟨_, rfl, ?_⟩; replace HO198 := Aside0.mk (Kd.S_mono (Kd.S_keep (IsS75.apartS (show IsS75 w0 _ g s0_0 t202 t203 from spec_l9Any.zI75 HI0) (zS HO198) (by decide)) hk (fun _ h => h.2)) (fun _ h => h.1)); replace HK := Aside0.mk (KeepBut.trans (zH HK) hk (.inl rfl)); replace HB := Aside0.mk (hb); replace HI0 := Aside0.mk (hi); (try clear hb)))
    replace HO198 := Aside0.mk (Kd.S_drew HO198.out)
    replace HI0 := Aside0.mk (IsS75.drew HI0.out)
    replace HK := Aside0.mk (keep_drew HK.out)
    replace HB := Aside0.mk (below_drew1 HB.out)
    have p214 : 0 ≤ (t201 : Int) := zD
    have q214 : t201 < (t196.length : Int) := zD
    obtain ⟨ad214, A214_1, c214_1, e214, hx214_0, hx214_1, hl214_1, hi214_1⟩ := at_T46 (Kd.S_reads' HO198.out).2.2 t201 p214 q214
    cases e214
    obtain ⟨ce214, hce214, hMe214, hcc214⟩ := Kd.S_get HO198.out z46 t201 p214 (by first | exact q214 | exact zD | (have e_ := (Kd.S_reads' HO198.out).1; omega))
    obtain ⟨ve214_1, rfl, ge214_1⟩ := k46_openM hMe214
    have hv214_1 := hcc214 1 _ rfl
    rw [add_field _ _ 1 (by omega)] at hv214_1
    replace hv214_1 := Option.some.inj (hv214_1.symm.trans hx214_1)
    rw [hv214_1] at ge214_1
    have HL214_1 := Aside0.mk (show Kd.R (Kd.int .i64) 3 _ _ _ _ ((rd_T46 t196 t201).f1) from ge214_1)
    clear hv214_1 ge214_1
    have HX214_1 := Aside0.mk hx214_1
    clear hcc214 hce214
    have HR214_1 := Aside0.mk hi214_1
    have HC214_1 := Aside0.mk hl214_1
    clear hi214_1 hl214_1
    replace p214 := eq_true p214
    replace q214 := eq_true q214
    refine start_ (n := 15) (S := fun w' => w'.cell? (ad214.add ((t201).toNat * 2)) = some (.int .i64 ((rd_T46 t196 t201).f0)) ∧ w'.cell? ⟨(ad214.add ((t201).toNat * 2)).block, (ad214.add ((t201).toNat * 2)).off + 1, none⟩ = some (.slice A214_1 ((rd_T46 t196 t201).f1).length c214_1)) (ds := [14]) (bm 15 0) (by kernel_rfl) rfl (bm0 _) ⟨hx214_0, hx214_1⟩ (fun hHeld => ?_); refine with_tabW spec_l9Any.tab9 spec_l9Any.bits9 (fun HT_ HW_ => ?_)
    generalize w32.drew = w33 at HO198 HI0 HK HB HL214_1 HR214_1 HX214_1 hx214_0 hx214_1 hHeld ⊢
    refine pU 0 (some 28) (bm 15 1) HT_ rfl rfl ?_
    refine pU 1 (some 29) (bm 15 3) HT_ rfl rfl ?_
    refine pU 2 (some 30) (bm 15 7) HT_ rfl rfl ?_
    refine pU 3 (some 31) (bm 15 15) HT_ rfl rfl ?_
    refine pU 4 (some 32) (bm 15 31) HT_ rfl rfl ?_
    refine pU 5 (some 33) (bm 15 63) HT_ rfl rfl ?_
    refine pU 7 (some 35) (bm 15 191) HT_ rfl rfl ?_
    refine tU 6 (some 34) (bm 15 255) HT_ HW_ rfl rfl hHeld ?_
    refine one_ (i := 8) (N := some 36) (bm 15 511) rfl rfl (one_of HT_.out (by kernel_rfl)) (by decide) (fun K hK => ?_)
    refine Kd.R_lit_step (Kd.int .i64) _ 3 ?hg (N := 36) ?hd (xs := ([(-1), 255, 256] : List Int)) (inner := [.int .i64 (-1), .int .i64 255, .int .i64 256]) (ok := fun _ => True) (okp := fun _ => True) ?hr ?hp (fun _ hk => hk) trivial (Below.refl _ _) (Nat.le_refl _) (by simp) ?_; (case hd => rfl); (case hg => rfl); (case hr => first | (go_simp; done) | (go_simp; rfl)); (case hp => exact (Reps.one (show Kd.M (Kd.int .i64) _ _ _ (-1) [.int .i64 (-1)] from rfl) (Reps.one (show Kd.M (Kd.int .i64) _ _ _ 255 [.int .i64 255] from rfl) (Reps.one (show Kd.M (Kd.int .i64) _ _ _ 256 [.int .i64 256] from rfl) (Reps.none _ _)))))
    intro v216 w34 ho35 hb hg_ hnew_
    have HS0_ := (hb.cell (World.block_lt_of_cell? _ _ (hHeld.1))).trans (hHeld.1)
    have HS1_ := (hb.cell (World.block_lt_of_cell? _ _ (hHeld.2))).trans (hHeld.2)
    clear hg_ hnew_
    (first | rw [← Ny215.out] at ho35 | (simp only [Int.reduceToNat] at ho35; rw [← Ny215.out] at ho35))
    replace HO198 := Aside0.mk (Kd.S_elder' (zS HO198) (Kd.R_base ho35) hb)
    have HO217 := Aside0.mk (Kd.R_lower (Kd.R_new' ho35 (Kd.R_lt (zR HL214_1))) (keep_size (w := w) (g := g) (row := none) (zH HK)))
    replace HL214_1 := Aside0.mk (Kd.R_elder' (zR HL214_1) (Kd.R_base ho35) hb)
    replace HR214_1 := Aside0.mk (Kd.C_below (by repeat (first | (with_reducible exact HR214_1.out) | (with_reducible refine Kd.C_alloc ?_ _) | (with_reducible refine Kd.C_drewN ?_ _) | (with_reducible refine Kd.C_drew ?_) | exact HR214_1.out)) hb)
    replace HX214_1 := Aside0.mk (pw_cell_below hb HX214_1.out)
    replace HK := Aside0.mk (KeepBut.trans (zH HK) (KeepBut.of_below hb g none) (.inl rfl))
    replace HB := Aside0.mk (below_step (by repeat (first | (with_reducible first | exact HB.out | apply below_alloc | apply pw_below_drewN | apply below_drew1 | refine below_set ?_ (IsS75.ge HI0.out)) | exact HB.out)) hb)
    replace HI0 := Aside0.mk (IsS75.below (spec_l9Any.zI75 HI0) hb)
    clear hb ho35
    obtain ⟨Ao36, co36, eo36⟩ := Kd.R_slice HO217.out
    (first | subst eo36 | (injection eo36 with f1_ f2_ f3_; have f4_ := f1_.symm; have f5_ := f3_.symm; clear f1_ f2_ f3_; subst f4_; subst f5_))
    refine hK.out _ _ ⟨HS0_, HS1_⟩ (fun hHeld => ?_)
    clear hK K
    refine norm_ (a' := ?_) ?_ ?_
    rotate_left
    ·show Act.put _ (some 36) _ = _
     simp only [Act.put, List.setIfInBounds_toArray, List.set_cons_zero, List.set_cons_succ, i64_w, i32_w]
     rfl
    refine one_ (i := 9) (N := some 37) (bm 15 1023) rfl rfl (one_of HT_.out (by kernel_rfl)) (by decide) (fun K hK => ?_)
    refine goes_ Try.func71 (by kernel_rfl) rfl #[.pointer (some ⟨g, 0, none⟩), .slice Ao36 y215.length co36] (by rfl) rfl rfl zG ?_
    with_reducible refine (spec_l1Int.calls g s0_0 t205 t206 _ _ y215 t218 t219 t220 w0 _ ?side1 ?side2 ?side3 ?side4 ?side5 A26.out).mono ?_
    (case side1 => exact spec_l9Any.zI75 HI0)
    (case side2 => repeat (first | (with_reducible first | exact HB.out | apply below_alloc | apply pw_below_drewN | apply below_drew1 | refine below_set ?_ (IsS75.ge HI0.out)) | exact HB.out))
    (case side3 => repeat (first | exact (Kd.R_reads' HO217.out).2.2 | (with_reducible refine Kd.C_alloc ?_ _) | (with_reducible refine Kd.C_drewN ?_ _) | (with_reducible refine Kd.C_drew ?_)))
    (case side4 => exact (Kd.R_reads' HO217.out).2.1)
    (case side5 => exact far_slice (IsS75.own_ne HI0.out HO217.out (by decide)))
    rintro e w37 ⟨rfl, hi, hb, hk⟩
    have HS0_ := keep_cell hk (hHeld.1) (by first | (rw [add_block]; exact Kd.own_blk (IsS75.own_neS HI0.out HO198.out (by decide))) | (show (Addr.add _ _).block ≠ _; rw [add_block]; exact Kd.own_blk (IsS75.own_neS HI0.out HO198.out (by decide))) | exact Kd.own_blk (IsS75.own_neS HI0.out HO198.out (by decide)))
    have HS1_ := keep_cell hk (hHeld.2) (by first | (rw [add_block]; exact Kd.own_blk (IsS75.own_neS HI0.out HO198.out (by decide))) | (show (Addr.add _ _).block ≠ _; rw [add_block]; exact Kd.own_blk (IsS75.own_neS HI0.out HO198.out (by decide))) | exact Kd.own_blk (IsS75.own_neS HI0.out HO198.out (by decide)))
    refine ⟨_, rfl, ?_⟩
    replace HL214_1 := Aside0.mk (Kd.R_mono (Kd.R_keep (IsS75.apart (show IsS75 w0 _ g s0_0 t205 t206 from spec_l9Any.zI75 HI0) (zR HL214_1) (by decide)) hk (fun _ h => h.2)) (fun _ h => h.1))
    replace HX214_1 := Aside0.mk (keep_cell hk HX214_1.out (by first | (rw [add_block]; exact Kd.own_blk (IsS75.own_neS HI0.out HO198.out (by decide))) | (show (Addr.add _ _).block ≠ _; rw [add_block]; exact Kd.own_blk (IsS75.own_neS HI0.out HO198.out (by decide))) | exact Kd.own_blk (IsS75.own_neS HI0.out HO198.out (by decide)) | (dsimp only; exact Kd.own_blk (IsS75.own_neS HI0.out HO198.out (by decide)))))
    replace HO198 := Aside0.mk (Kd.S_mono (Kd.S_keep (IsS75.apartS (show IsS75 w0 _ g s0_0 t205 t206 from spec_l9Any.zI75 HI0) (zS HO198) (by decide)) hk (fun _ h => h.2)) (fun _ h => h.1))
    replace HO217 := Aside0.mk (Kd.R_mono (Kd.R_keep (IsS75.apart (show IsS75 w0 _ g s0_0 t205 t206 from spec_l9Any.zI75 HI0) (zR HO217) (by decide)) hk (fun _ h => h.2)) (fun _ h => h.1))
    replace HK := Aside0.mk (KeepBut.trans (zH HK) hk (.inl rfl))
    replace HB := Aside0.mk (hb)
    replace HI0 := Aside0.mk (hi)
    (try clear hb)
    (try clear hb2)
    (try clear hk)
    (try clear hi)
    have n_ := Aside0.mk (Kd.S_mono (ok' := (fun k_ => some k_ ≠ (.slice Ao36 y215.length co36 : Value).ownBlock)) HO198.out (fun k_ hk => hk.2))
    clear HO198
    have HO198 := n_
    clear n_
    obtain ⟨go38, co38, eo38, gb38, gl38, cl38, HG38⟩ := Kd.S_form HO198.out (by have h_ : (t201 : Int) < ((t196.length : Int) : Int) := zD; have h2_ : 0 ≤ (t201 : Int) := (zD); omega)
    (first | cases eo38 | (injection eo38 with ea_ en_ ec_; (first | subst ea_ | (injection ea_ with ea_; subst ea_)); subst ec_; clear en_))
    have GB38 := Aside0.mk gb38
    have GG38 := Aside0.mk HG38
    clear gb38 gl38 HG38
    (first | simp only [add_plain] at hx214_0 | skip)
    (first | simp only [add_plain] at hx214_1 | skip)
    obtain ⟨oki38, ce38, hcl38, hM38, hcc38, _, _, hH38⟩ := Kd.S_elem HO198.out z46 (t201 : Int) (zD) (by have h_ : (t201 : Int) < ((t196.length : Int) : Int) := zD; first | exact h_ | (have e_ := (Kd.S_reads' HO198.out).1; omega) | simpa using h_)
    obtain ⟨ve38_1, rfl, ge38_1⟩ := k46_openM hM38
    have hv38 := hcc38 1 _ rfl
    have hX38 := HX214_1.out
    (try simp only [add_plain] at hX38)
    (try simp only [Nat.add_zero] at hv38)
    replace hv38 := Option.some.inj (hv38.symm.trans hX38)
    subst hv38
    clear hX38 hcc38 hcl38
    have UU38 := Aside0.mk (show Kd.R (Kd.int .i64) 3 _ w.heap.size oki38 (.slice A214_1 ((rd_T46 t196 t201).f1).length c214_1) ((rd_T46 t196 t201).f1) from ge38_1)
    have HH38 := Aside0.mk hH38
    have HN38 := Aside0.mk (Kd.S_reads' HO198.out).1
    clear hH38 ge38_1
    refine hK.out _ _ ⟨HS0_, HS1_⟩ (fun hHeld => ?_)
    clear hK K
    refine norm_ (a' := ?_) ?_ ?_
    rotate_left
    ·show Act.put _ (some 37) _ = _
     simp only [Act.put, List.setIfInBounds_toArray, List.set_cons_zero, List.set_cons_succ, i64_w, i32_w]
     rfl
    refine one_ (i := 10) (N := some 38) (bm 15 2047) rfl rfl (one_of HT_.out (by kernel_rfl)) (by decide) (fun K hK => ?_)
    refine value_ (w1 := ?_) (v := ?_) (by rfl) rfl ?_ ?_
    rotate_left 2
    ·go_simp
     constructor
     ·rfl
     ·rfl
    refine hK.out _ _ ⟨(World.cell?_alloc_lt _ _ _ (World.block_lt_of_cell? _ _ (hHeld.1))).trans (hHeld.1), (World.cell?_alloc_lt _ _ _ (World.block_lt_of_cell? _ _ (hHeld.2))).trans (hHeld.2)⟩ (fun hHeld => ?_)
    clear hK K
    refine norm_ (a' := ?_) ?_ ?_
    rotate_left
    ·show Act.put _ (some 38) _ = _
     simp only [Act.put, List.setIfInBounds_toArray, List.set_cons_zero, List.set_cons_succ, i64_w, i32_w]
     rfl
    refine one_ (i := 11) (N := some 39) (bm 15 4095) rfl rfl (one_of HT_.out (by kernel_rfl)) (by decide) (fun K hK => ?_)
    refine Kd.R_append_step (Kd.int .i64) w.heap.size (by rfl) (.tmp 34) (.tmp 38) 38 3 (.int .i64 0) 8 rfl Try.underlying38 info3 rfl (by decide) (by omega) (.slice A214_1 ((rd_T46 t196 t201).f1).length c214_1) ((rd_T46 t196 t201).f1) t218 [.int .i64 t218] (fun k_ => oki38 k_ ∨ ((fun k_ => some k_ ≠ (.slice Ao36 y215.length co36 : Value).ownBlock)) k_ ∧ w37.heap.size ≤ k_) (fun _ => False) rfl rfl ?aP (fun _ hk => hk.elim) ?aF ?aO (Below.refl _ _) ?aS ?aL ?_
    (case aP => exact rfl)
    (case aF => exact (fun k_ hk => .inr ⟨Kd.fresh' (Kd.R_lt (zR HO217)) k_ hk, hk⟩))
    (case aO => exact (by (with_reducible repeat (first | apply Kd.R_alloc | apply Kd.R_drewN | apply Kd.R_drew)); exact Kd.R_mono UU38.out (fun _ hk => .inl hk)))
    (case aS => exact (keep_size (w := w) (g := g) (row := none) (zH HK)))
    (case aL => have := LMc27.out; omega)
    intro v222 w39 ho hb hg hat
    (first | have HS0_ := cell_grown hg (hHeld.1) (by first | (rw [add_block]; exact (fun e_ => ((HL214_1.out.1 _ e_.symm).1.2) rfl)) | (show some (Addr.add _ _).block ≠ _; rw [add_block]; exact (fun e_ => ((HL214_1.out.1 _ e_.symm).1.2) rfl)) | exact (fun e_ => ((HL214_1.out.1 _ e_.symm).1.2) rfl)) | have HS0_ := cell_grown hg (cell_unalloc (hHeld.1) (by first | (rw [add_block]; exact Kd.S_lt HO198.out _ rfl) | (show (Addr.add _ _).block < _; rw [add_block]; exact Kd.S_lt HO198.out _ rfl) | exact Kd.S_lt HO198.out _ rfl)) (by first | (rw [add_block]; exact (fun e_ => ((HL214_1.out.1 _ e_.symm).1.2) rfl)) | (show some (Addr.add _ _).block ≠ _; rw [add_block]; exact (fun e_ => ((HL214_1.out.1 _ e_.symm).1.2) rfl)) | exact (fun e_ => ((HL214_1.out.1 _ e_.symm).1.2) rfl)))
    (first | have HS1_ := cell_grown hg (hHeld.2) (by first | (rw [add_block]; exact (fun e_ => ((HL214_1.out.1 _ e_.symm).1.2) rfl)) | (show some (Addr.add _ _).block ≠ _; rw [add_block]; exact (fun e_ => ((HL214_1.out.1 _ e_.symm).1.2) rfl)) | exact (fun e_ => ((HL214_1.out.1 _ e_.symm).1.2) rfl)) | have HS1_ := cell_grown hg (cell_unalloc (hHeld.2) (by first | (rw [add_block]; exact Kd.S_lt HO198.out _ rfl) | (show (Addr.add _ _).block < _; rw [add_block]; exact Kd.S_lt HO198.out _ rfl) | exact Kd.S_lt HO198.out _ rfl)) (by first | (rw [add_block]; exact (fun e_ => ((HL214_1.out.1 _ e_.symm).1.2) rfl)) | (show some (Addr.add _ _).block ≠ _; rw [add_block]; exact (fun e_ => ((HL214_1.out.1 _ e_.symm).1.2) rfl)) | exact (fun e_ => ((HL214_1.out.1 _ e_.symm).1.2) rfl)))
    rw [← Ny221.out] at ho
    replace HO217 := Aside0.mk (Kd.R_grown2 (zR HO217) rfl hg (fun k_ e_ => (HL214_1.out.1 k_ e_).2))
    replace HB := Aside0.mk (below_weaken (by repeat (first | (with_reducible first | exact HB.out | apply below_alloc | apply pw_below_drewN | apply below_drew1 | refine below_set ?_ (IsS75.ge HI0.out)) | exact HB.out)) HL.out hb)
    replace HI0 := Aside0.mk (IsS75.grown (spec_l9Any.zI75 HI0) hg (IsS75.own_ne HI0.out HL214_1.out (by decide)))
    replace HK := Aside0.mk (KeepBut.trans (zH HK) (KeepBut.of_grown hg g) (Kd.R_base2 HL214_1.out))
    replace HH38 := Aside0.mk (Kd.H_grown (Kd.H_widen (by repeat (first | exact HH38.out | refine Kd.H_alloc ?_ _ | refine Kd.H_drewN ?_ _ | refine Kd.H_drew ?_))) hg (fun k_ e_ => .inl (UU38.out.1 k_ e_)))
    have HO223 := Aside0.mk (ho)
    clear HO198 UU38 HL214_1
    clear ho hb hg hat
    have p28 : 0 ≤ (t201 : Int) := zD
    have q28 : (t201 : Int) < ((t196.length : Int) : Int) := zD
    replace p28 := eq_true p28
    replace q28 := eq_true q28
    obtain ⟨Ao42, co42, eo42⟩ := Kd.R_slice HO223.out
    (first | subst eo42 | (injection eo42 with f1_ f2_ f3_; have f4_ := f1_.symm; have f5_ := f3_.symm; clear f1_ f2_ f3_; subst f4_; subst f5_))
    obtain ⟨_, _, hraw40, _, _, hcc40, _⟩ := Kd.H_raw HH38.out (zD) (by have h_ : (t201 : Int) < ((t196.length : Int) : Int) := zD; first | exact h_ | (have e_ := (HN38.out); omega) | simpa using h_)
    obtain ⟨_, hfr40⟩ := Kd.H_at HH38.out (zD) (by have h_ : (t201 : Int) < ((t196.length : Int) : Int) := zD; first | exact h_ | (have e_ := (HN38.out); omega) | simpa using h_)
    have hx40_0 := hcc40 1 _ rfl
    have hf40_0 := hfr40 1
    (try rw [show (k46).sz = 2 from rfl] at hx40_0)
    (try rw [show (k46).sz = 2 from rfl] at hf40_0)
    have HP40 := Kd.S_seg0 HH38.out (zD) (by have h_ : (t201 : Int) < ((t196.length : Int) : Int) := zD; first | exact h_ | (have e_ := (HN38.out); omega) | simpa using h_) (seg := [.slice Ao42 y221.length co42]) (j := 1) (show 2 ≤ 2 from by decide) (x' := (⟨(rd_T46 t196 t201).f0, y221⟩ : S46)) (k46_mkM _ _ _ (⟨(rd_T46 t196 t201).f0, y221⟩ : S46) HO223.out) (fun _ hk => hk)
    clear hcc40 hfr40
    have HN0_go38 := Aside0.mk (show g ≠ go38 from by have h_ := IsS75.own_ne HI0.out hraw40 (by decide); intro e_; exact h_ (by rw [e_]; rfl))
    have HS40 := HP40.1
    rw [← Ny224.out] at HS40
    have HQ40 := Aside0.mk HS40
    obtain ⟨_, hgg40⟩ := Kd.R_typed hraw40 go38 rfl
    have GG40_ := Aside0.mk hgg40
    clear HP40 HS40 hgg40
    refine hK.out _ _ ⟨HS0_, HS1_⟩ (fun hHeld => ?_)
    clear hK K
    refine norm_ (a' := ?_) ?_ ?_
    rotate_left
    ·show Act.put _ (some 39) _ = _
     simp only [Act.put, List.setIfInBounds_toArray, List.set_cons_zero, List.set_cons_succ, i64_w, i32_w]
     rfl
    refine pU 12 (some 40) (bm 15 8191) HT_ rfl rfl ?_
    refine pU 13 (some 41) (bm 15 16383) HT_ rfl rfl ?_
    refine last_ (i := 14) (N := none) (bm 15 32767) rfl rfl (one_of HT_.out (by kernel_rfl)) (by decide) (fun K hK => ?_)
    refine skip_ (w1 := ?_) (by rfl) rfl ?_ ?_
    rotate_left
    ·go_simp
     rfl
    refine hK.out _ _ ?_
    clear hK K
    refine done_ (done_of HT_.out (by kernel_rfl)) ?_
    try clear hHeld
    try go_wp2
    go_ret
    exact ⟨_, zE, by (with_reducible repeat (first | apply Kd.S_alloc | apply Kd.S_drewN | apply Kd.S_drew)); exact Kd.S_mono HQ40.out (fun _ hk => trivial), spec_l9Any.zI75 HI0, by repeat (first | (with_reducible first | exact HB.out | apply below_alloc | apply pw_below_drewN | apply below_drew1 | refine below_set ?_ (Nat.le_trans HL.out GB38.out) | refine below_set ?_ (IsS75.ge HI0.out)) | exact HB.out), zH HK⟩
   ·rw [if_neg c23] at H
    have c23b0 : (t204 == 1) = false := beq_eq_false_iff_ne.mpr c23
    have c23b1 : (t204 != 1) = true := bne_iff_ne.mpr c23
    by_cases c43 : t204 = 2
    ·rw [if_pos c43] at H
     have c43b0 : (t204 == 2) = true := beq_iff_eq.mpr c43
     have c43b1 : (t204 != 2) = false := bne_eq_false_iff_eq.mpr c43
     clear c43
     obtain ⟨y225, hy225⟩ : ∃ y_ : List Int, y_ = (([1, 2, 3, 4, 5] : List Int)) := ⟨_, rfl⟩
     replace H : (if 0 ≤ t201 then (if t201 < (t196.length : Int) then (some ((t196.set (t201 : Int).toNat (⟨(rd_T46 t196 t201).f0, y225⟩ : S46)), t205, t206)) else (none)) else (none)) = some (r1, r2, r3) := by first | (rw [hy225]; with_reducible exact H) | (have H2_ := (Option.bind_some _ _).symm.trans H; rw [hy225]; with_reducible exact H2_) | (have H2_ := (Option.bind_some _ _).symm.trans H; with_reducible exact H2_) | with_reducible exact H | (rw [hy225]; exact H) | exact H
     have Ny225 := Aside0.mk hy225
     clear hy225
     obtain ⟨c44, H⟩ := ifS H
     have c44b0 : decide (0 ≤ t201) = true := decide_eq_true c44
     clear c44
     obtain ⟨c45, H⟩ := ifS H
     have c45b0 : decide (t201 < (t196.length : Int)) = true := decide_eq_true c45
     clear c45
     obtain ⟨y228, hy228⟩ : ∃ y_ : List (S46), y_ = (t196.set (t201 : Int).toNat (⟨(rd_T46 t196 t201).f0, y225⟩ : S46)) := ⟨_, rfl⟩
     replace H : (some (y228, t205, t206)) = some (r1, r2, r3) := by first | (rw [hy228]; with_reducible exact H) | (have H2_ := (Option.bind_some _ _).symm.trans H; rw [hy228]; with_reducible exact H2_) | (have H2_ := (Option.bind_some _ _).symm.trans H; with_reducible exact H2_) | with_reducible exact H | (rw [hy228]; exact H) | exact H
     have Ny228 := Aside0.mk hy228
     clear hy228
     simp only [Option.some.injEq, Prod.mk.injEq] at H
     obtain ⟨rfl, rfl, rfl⟩ := H
     go_enter Try.func40, Try.ntmps40
     go_wp2_with (first | ((with_reducible refine gate_callee (f := 70) rfl ?_); refine goesL_ (some 6) rfl rfl Try.func70 (by kernel_rfl) rfl #[.pointer (some ⟨g, 0, none⟩)] rfl zG ?_; (with_reducible refine (spec_l9Draw.calls k g s0_0 s0_1 s0_2 t196 t199 t200 w0 _ ?side1 ?side2 A2.out).mono ?_); (case side1 => exact spec_l9Any.zI75 HI0); (case side2 => repeat (first | (with_reducible first | exact HB.out | apply below_alloc | apply pw_below_drewN | apply below_drew1 | refine below_set ?_ (IsS75.ge HI0.out)) | exact HB.out)); rintro e w47 ⟨v197, rfl, ho0, hi, hb, hk⟩; refine ⟨_, rfl, ?_⟩; have HO198 := Aside0.mk (Kd.S_lower ho0 (keep_size (w := w) (g := g) (row := none) (zH HK))); replace HK := Aside0.mk (KeepBut.trans (zH HK) hk (.inl rfl)); replace HB := Aside0.mk (hb); replace HI0 := Aside0.mk (hi); (try clear hb); (try clear ho0); obtain ⟨Ao48, co48, eo48⟩ := Kd.S_slice HO198.out; subst eo48) | ((with_reducible refine gate_callee (f := 42) rfl ?_); refine goesL_ (some 14) rfl rfl Try.func42 (by kernel_rfl) rfl #[.pointer (some ⟨g, 0, none⟩), .int .i64 (t196.length : Int)] rfl zG ?_; (with_reducible refine (spec_l1Below.calls g s0_0 t199 t200 (t196.length : Int) t201 t202 t203 w0 _ ?side1 ?side2 A6.out).mono ?_); (case side1 => exact spec_l9Any.zI75 HI0); (case side2 => repeat (first | (with_reducible first | exact HB.out | apply below_alloc | apply pw_below_drewN | apply below_drew1 | refine below_set ?_ (IsS75.ge HI0.out)) | exact HB.out)); rintro e w49 ⟨rfl, hi, hb, hk⟩; refine ⟨_, rfl, ?_⟩; replace HO198 := Aside0.mk (Kd.S_mono (Kd.S_keep (IsS75.apartS (show IsS75 w0 _ g s0_0 t199 t200 from spec_l9Any.zI75 HI0) (zS HO198) (by decide)) hk (fun _ h => h.2)) (fun _ h => h.1)); replace HK := Aside0.mk (KeepBut.trans (zH HK) hk (.inl rfl)); replace HB := Aside0.mk (hb); replace HI0 := Aside0.mk (hi); (try clear hb)) | ((with_reducible refine gate_callee (f := 42) rfl ?_); refine goesL_ (some 16) rfl rfl Try.func42 (by kernel_rfl) rfl #[.pointer (some ⟨g, 0, none⟩), .int .i64 9] rfl zG ?_; (with_reducible refine (spec_l1Below.calls g s0_0 t202 t203 9 t204 t205 t206 w0 _ ?side1 ?side2 A7.out).mono ?_); (case side1 => exact spec_l9Any.zI75 HI0); (case side2 => repeat (first | (with_reducible first | exact HB.out | apply below_alloc | apply pw_below_drewN | apply below_drew1 | refine below_set ?_ (IsS75.ge HI0.out)) | exact HB.out)); rintro e w50 ⟨rfl, hi, hb, hk⟩; refine ⟨_, rfl, ?_⟩; replace HO198 := Aside0.mk (Kd.S_mono (Kd.S_keep (IsS75.apartS (show IsS75 w0 _ g s0_0 t202 t203 from spec_l9Any.zI75 HI0) (zS HO198) (by decide)) hk (fun _ h => h.2)) (fun _ h => h.1)); replace HK := Aside0.mk (KeepBut.trans (zH HK) hk (.inl rfl)); replace HB := Aside0.mk (hb); replace HI0 := Aside0.mk (hi); (try clear hb)) | ((with_reducible refine gate_dst (N := 46) rfl ?_); refine Kd.R_lit (Kd.int .i64) _ 3 ?hg (N := 46) ?hd (xs := ([1, 2, 3, 4, 5] : List Int)) (inner := [.int .i64 1, .int .i64 2, .int .i64 3, .int .i64 4, .int .i64 5]) (ok := fun _ => True) (okp := fun _ => True) ?hr ?hp (fun _ hk => hk) trivial (Below.refl _ _) (Nat.le_refl _) (by simp) ?_; (case hd => rfl); (case hg => rfl); (case hr => first | (go_simp; done) | (go_simp; rfl)); (case hp => exact (Reps.one (show Kd.M (Kd.int .i64) _ _ _ 1 [.int .i64 1] from rfl) (Reps.one (show Kd.M (Kd.int .i64) _ _ _ 2 [.int .i64 2] from rfl) (Reps.one (show Kd.M (Kd.int .i64) _ _ _ 3 [.int .i64 3] from rfl) (Reps.one (show Kd.M (Kd.int .i64) _ _ _ 4 [.int .i64 4] from rfl) (Reps.one (show Kd.M (Kd.int .i64) _ _ _ 5 [.int .i64 5] from rfl) (Reps.none _ _))))))); intro v226 w51 ho52 hb hg_ hnew_; clear hg_ hnew_; (first | rw [← Ny225.out] at ho52 | (simp only [Int.reduceToNat] at ho52; rw [← Ny225.out] at ho52)); replace HO198 := Aside0.mk (Kd.S_elder' (zS HO198) (Kd.R_base ho52) hb); have HO227 := Aside0.mk (Kd.R_lower ho52 (keep_size (w := w) (g := g) (row := none) (zH HK))); replace HK := Aside0.mk (KeepBut.trans (zH HK) (KeepBut.of_below hb g none) (.inl rfl)); replace HB := Aside0.mk (below_step (by repeat (first | (with_reducible first | exact HB.out | apply below_alloc | apply pw_below_drewN | apply below_drew1 | refine below_set ?_ (IsS75.ge HI0.out)) | exact HB.out)) hb); replace HI0 := Aside0.mk (IsS75.below (spec_l9Any.zI75 HI0) hb); clear hb ho52; have p46 : 0 ≤ (t201 : Int) := zD; have q46 : (t201 : Int) < ((t196.length : Int) : Int) := zD; obtain ⟨go46, co46, eo46, gb46, gl46, cl46, HG46⟩ := Kd.S_form HO198.out (by omega); (first | cases eo46 | (injection eo46 with ea_ en_ ec_; (first | subst ea_ | (injection ea_ with ea_; subst ea_)); subst ec_; clear en_)); have GB46 := Aside0.mk gb46; have GG46 := Aside0.mk HG46; clear gb46 gl46 HG46; obtain ⟨_, ce46, hcl46, hM46, hcc46, hfr46, _, _⟩ := Kd.S_elem HO198.out z46 (t201 : Int) p46 q46; obtain ⟨ve46_1, rfl, ge46_1⟩ := k46_openM hM46; have hx46_0 : w51.cell? ⟨go46, (t201 : Int).toNat * 2, none⟩ = some (.int .i64 ((rd_T46 t196 t201).f0)) := hcc46 0 _ rfl; have hx46_1 : w51.cell? ⟨go46, (t201 : Int).toNat * 2 + 1, none⟩ = some (ve46_1) := hcc46 1 _ rfl; have hf46_0 : w51.frozen? ⟨go46, (t201 : Int).toNat * 2, none⟩ = false := hfr46 0; have hf46_1 : w51.frozen? ⟨go46, (t201 : Int).toNat * 2 + 1, none⟩ = false := hfr46 1; clear hcl46 hcc46 hfr46 hM46; replace p46 := eq_true p46; replace q46 := eq_true q46; have n_ := Aside0.mk (Kd.S_mono (ok' := (fun k_ => some k_ ≠ (v226 : Value).ownBlock)) HO198.out (fun k_ hk => hk.2)); clear HO198; have HO198 := n_; clear n_; have HX53 := Aside0.mk (show Kd.S k46 46 w51 w.heap.size (fun k_ => ((fun _ => True)) k_ ∧ ¬ ((fun k_ => some k_ = (v226 : Value).ownBlock)) k_) (.slice (some ⟨go46, 0, none⟩) t196.length co48) t196 from (by (with_reducible repeat (first | apply Kd.S_alloc | apply Kd.S_drewN | apply Kd.S_drew)); exact Kd.S_mono HO198.out (fun k_ hk => ⟨trivial, fun e_ => hk e_⟩))); obtain ⟨oki53, ce53, hcl53, hM53, hcc53, hfr53, hoki53, hH53⟩ := Kd.S_elem HX53.out z46 (t201 : Int) (zD) (by have h_ : (t201 : Int) < ((t196.length : Int) : Int) := zD; first | exact h_ | (have e_ := (Kd.S_reads' HO198.out).1; omega) | simpa using h_); obtain ⟨ve53_1, rfl, ge53_1⟩ := k46_openM hM53; have HP53 := Kd.S_seg hH53 (zD) (by have h_ : (t201 : Int) < ((t196.length : Int) : Int) := zD; first | exact h_ | (have e_ := (Kd.S_reads' HO198.out).1; omega) | simpa using h_) (seg := [v226]) (j := 1) (show 2 ≤ 2 from by decide) (x' := (⟨(rd_T46 t196 t201).f0, y225⟩ : S46)) (k46_mkM _ _ _ (⟨(rd_T46 t196 t201).f0, y225⟩ : S46) (Kd.R_mono (Kd.R_tight rfl (Kd.R_mono (ok' := fun k_ => ((fun _ => True)) k_ ∧ k_ ≠ go46) (Kd.R_apart' (HO227.out) (Kd.S_typed HO198.out) (by decide)) (fun k_ hk => ⟨trivial, fun e_ => (hk.2) (by rw [e_]; rfl)⟩))) (fun _ h_ => Or.inr (h_)))) (fun _ hk => hk) (fun k_ hk_ => ((Kd.R_mono (ok' := fun k_ => ((fun _ => True)) k_ ∧ k_ ≠ go46) (Kd.R_apart' (HO227.out) (Kd.S_typed HO198.out) (by decide)) (fun k_ hk => ⟨trivial, fun e_ => (hk.2) (by rw [e_]; rfl)⟩))).1 k_ hk_.symm); have hx53_1 := hcc53 1 _ rfl; (try simp only [show (k46).sz = 2 from rfl, Nat.mul_one, Nat.add_zero] at hx53_1); have hf53_1 := hfr53 1; (try simp only [show (k46).sz = 2 from rfl, Nat.mul_one, Nat.add_zero] at hf53_1); clear hcl53 hcc53 hfr53 hM53 hoki53 hH53) | ((with_reducible refine gate_store (t := 38) (p := 48) rfl ?_); (try have hst226_ := (fun (w_ : World) (a_ : Addr) (m_ : Mode) => run_store Try.prog w_ a_ v226 m_ (by first | exact (Kd.R_val HO227.out).2 | exact (Kd.R_val (Kd.S_R HO227.out)).2))); refine store_event (t := 38) (p := 48) (v := ?vo_w54) (w1 := (w51.setCell ⟨go46, (t201 : Int).toNat * 2 + 1, none⟩ (v226))) ?hg ?ho ?hn ?hr ?_; (case ho => rfl); (case hg => rfl); (case hn => rfl); (case hr => first | (go_simp; done) | (go_simp; rfl) | (obtain ⟨A_, c_, e_⟩ := Kd.R_slice HO227.out; subst e_; first | (go_simp; done) | (go_simp; rfl)) | (obtain ⟨A_, c_, e_⟩ := Kd.S_slice HO227.out; subst e_; first | (go_simp; done) | (go_simp; rfl))); intro w54 hw; have hg : w51.grownBy w54 (some go46) := (by rw [hw]; exact HP53.2); have hp_ : Kd.S k46 46 w54 w.heap.size (fun _ => True) (.slice (some ⟨go46, 0, none⟩) t196.length co48) y228 := (by rw [hw, Ny228.out]; exact HP53.1); clear HP53; replace HI0 := Aside0.mk (IsS75.grown (spec_l9Any.zI75 HI0) hg (IsS75.own_neS HI0.out HO198.out (by decide))); replace HB := Aside0.mk ((by rw [hw]; exact below_set (HB.out) (Nat.le_trans HL.out GB46.out) : Below w0.heap.size w0 w54)); replace HK := Aside0.mk (KeepBut.trans (zH HK) (KeepBut.of_grown hg g) (Kd.S_base2 HO198.out)); replace HO198 := Aside0.mk (hp_); clear HO227; clear hg hw hp_))
     go_ret
     exact ⟨_, zE, by (with_reducible repeat (first | apply Kd.S_alloc | apply Kd.S_drewN | apply Kd.S_drew)); exact HO198.out, spec_l9Any.zI75 HI0, by repeat (first | (with_reducible first | exact HB.out | apply below_alloc | apply pw_below_drewN | apply below_drew1 | refine below_set ?_ (IsS75.ge HI0.out)) | exact HB.out), zH HK⟩
    ·rw [if_neg c43] at H
     have c43b0 : (t204 == 2) = false := beq_eq_false_iff_ne.mpr c43
     have c43b1 : (t204 != 2) = true := bne_iff_ne.mpr c43
     by_cases c55 : t204 = 3
     ·rw [if_pos c55] at H
      have c55b0 : (t204 == 3) = true := beq_iff_eq.mpr c55
      have c55b1 : (t204 != 3) = false := bne_eq_false_iff_eq.mpr c55
      clear c55
      obtain ⟨c56, H⟩ := ifS H
      have c56b0 : decide (0 < (t196.length : Int)) = true := decide_eq_true c56
      have c56b1 : decide (0 < t196.length) = true := decide_eq_true (by omega)
      clear c56
      obtain ⟨c57, H⟩ := ifS H
      have LMc57 := Aside0.mk c57
      clear c57
      obtain ⟨y230, hy230⟩ : ∃ y_ : List (S46), y_ = (t196 ++ [(⟨(rd_T46 t196 0).f0, ([] : List Int)⟩ : S46)]) := ⟨_, rfl⟩
      replace H : (some (y230, t205, t206)) = some (r1, r2, r3) := by first | (rw [hy230]; with_reducible exact H) | (have H2_ := (Option.bind_some _ _).symm.trans H; rw [hy230]; with_reducible exact H2_) | (have H2_ := (Option.bind_some _ _).symm.trans H; with_reducible exact H2_) | with_reducible exact H | (rw [hy230]; exact H) | exact H
      have Ny230 := Aside0.mk hy230
      clear hy230
      simp only [Option.some.injEq, Prod.mk.injEq] at H
      obtain ⟨rfl, rfl, rfl⟩ := H
      go_enter Try.func40, Try.ntmps40
      go_wp2_with (first | ((with_reducible refine gate_callee (f := 70) rfl ?_); refine goesL_ (some 6) rfl rfl Try.func70 (by kernel_rfl) rfl #[.pointer (some ⟨g, 0, none⟩)] rfl zG ?_; (with_reducible refine (spec_l9Draw.calls k g s0_0 s0_1 s0_2 t196 t199 t200 w0 _ ?side1 ?side2 A2.out).mono ?_); (case side1 => exact spec_l9Any.zI75 HI0); (case side2 => repeat (first | (with_reducible first | exact HB.out | apply below_alloc | apply pw_below_drewN | apply below_drew1 | refine below_set ?_ (IsS75.ge HI0.out)) | exact HB.out)); rintro e w58 ⟨v197, rfl, ho0, hi, hb, hk⟩; refine ⟨_, rfl, ?_⟩; have HO198 := Aside0.mk (Kd.S_lower ho0 (keep_size (w := w) (g := g) (row := none) (zH HK))); replace HK := Aside0.mk (KeepBut.trans (zH HK) hk (.inl rfl)); replace HB := Aside0.mk (hb); replace HI0 := Aside0.mk (hi); (try clear hb); (try clear ho0); obtain ⟨Ao59, co59, eo59⟩ := Kd.S_slice HO198.out; subst eo59) | ((with_reducible refine gate_callee (f := 42) rfl ?_); refine goesL_ (some 14) rfl rfl Try.func42 (by kernel_rfl) rfl #[.pointer (some ⟨g, 0, none⟩), .int .i64 (t196.length : Int)] rfl zG ?_; (with_reducible refine (spec_l1Below.calls g s0_0 t199 t200 (t196.length : Int) t201 t202 t203 w0 _ ?side1 ?side2 A6.out).mono ?_); (case side1 => exact spec_l9Any.zI75 HI0); (case side2 => repeat (first | (with_reducible first | exact HB.out | apply below_alloc | apply pw_below_drewN | apply below_drew1 | refine below_set ?_ (IsS75.ge HI0.out)) | exact HB.out)); rintro e w60 ⟨rfl, hi, hb, hk⟩; refine ⟨_, rfl, ?_⟩; replace HO198 := Aside0.mk (Kd.S_mono (Kd.S_keep (IsS75.apartS (show IsS75 w0 _ g s0_0 t199 t200 from spec_l9Any.zI75 HI0) (zS HO198) (by decide)) hk (fun _ h => h.2)) (fun _ h => h.1)); replace HK := Aside0.mk (KeepBut.trans (zH HK) hk (.inl rfl)); replace HB := Aside0.mk (hb); replace HI0 := Aside0.mk (hi); (try clear hb)) | ((with_reducible refine gate_callee (f := 42) rfl ?_); refine goesL_ (some 16) rfl rfl Try.func42 (by kernel_rfl) rfl #[.pointer (some ⟨g, 0, none⟩), .int .i64 9] rfl zG ?_; (with_reducible refine (spec_l1Below.calls g s0_0 t202 t203 9 t204 t205 t206 w0 _ ?side1 ?side2 A7.out).mono ?_); (case side1 => exact spec_l9Any.zI75 HI0); (case side2 => repeat (first | (with_reducible first | exact HB.out | apply below_alloc | apply pw_below_drewN | apply below_drew1 | refine below_set ?_ (IsS75.ge HI0.out)) | exact HB.out)); rintro e w61 ⟨rfl, hi, hb, hk⟩; refine ⟨_, rfl, ?_⟩; replace HO198 := Aside0.mk (Kd.S_mono (Kd.S_keep (IsS75.apartS (show IsS75 w0 _ g s0_0 t202 t203 from spec_l9Any.zI75 HI0) (zS HO198) (by decide)) hk (fun _ h => h.2)) (fun _ h => h.1)); replace HK := Aside0.mk (KeepBut.trans (zH HK) hk (.inl rfl)); replace HB := Aside0.mk (hb); replace HI0 := Aside0.mk (hi); (try clear hb); have p229 : 0 ≤ (0 : Int) := (by omega); have q229 : 0 < (t196.length : Int) := zD; obtain ⟨ad229, A229_1, c229_1, e229, hx229_0, hx229_1, hl229_1, hi229_1⟩ := at_T46 (Kd.S_reads' HO198.out).2.2 0 p229 q229; cases e229; obtain ⟨ce229, hce229, hMe229, hcc229⟩ := Kd.S_get HO198.out z46 0 p229 (by first | exact q229 | exact zD | (have e_ := (Kd.S_reads' HO198.out).1; omega)); obtain ⟨ve229_1, rfl, ge229_1⟩ := k46_openM hMe229; have hv229_1 := hcc229 1 _ rfl; rw [add_field _ _ 1 (by omega)] at hv229_1; replace hv229_1 := Option.some.inj (hv229_1.symm.trans hx229_1); rw [hv229_1] at ge229_1; have HL229_1 := Aside0.mk (show Kd.R (Kd.int .i64) 3 _ _ _ _ ((rd_T46 t196 0).f1) from ge229_1); clear hv229_1 ge229_1; have HX229_1 := Aside0.mk hx229_1; clear hcc229 hce229; have qi229 : (0 < t196.length) = True := eq_true (by omega); (try rw [show ((0 : Int)).toNat = 0 from rfl] at hx229_0); (try rw [show 0 * 2 = 0 from rfl] at hx229_0); (try rw [Addr.add_zero'] at hx229_0); (try rw [show ((0 : Int)).toNat = 0 from rfl] at hx229_1); (try rw [show 0 * 2 = 0 from rfl] at hx229_1); (try rw [Addr.add_zero'] at hx229_1); have HR229_1 := Aside0.mk hi229_1; have HC229_1 := Aside0.mk hl229_1; clear hi229_1 hl229_1; replace p229 := eq_true p229; replace q229 := eq_true q229) | ((with_reducible refine gate_builtin (b := .append) (xs := #[.tmp 51, .tmp 57]) rfl ?_); at_builtin; refine Kd.S_append k46 w.heap.size rfl (.tmp 51) (.tmp 57) 24 46 (.agg #[(.int .i64 0), (.slice none 0 0)]) 32 rfl Try.underlying24 info46 rfl (by decide) (by omega) (.slice (some ad229) t196.length co59) t196 (⟨(rd_T46 t196 0).f0, ([] : List Int)⟩ : S46) [.int .i64 ((rd_T46 t196 0).f0), .slice none 0 0] (fun _ => True) (fun _ => False) rfl rfl ?aP (fun k_ hk_ => hk_.elim) ?aF ?aO (Below.refl _ _) ?aS ?aL ?_; (case aP => exact k46_mkM _ _ _ (⟨(rd_T46 t196 0).f0, ([] : List Int)⟩ : S46) (Kd.R_nil _ _ _ _ _)); (case aF => exact (fun _ _ => trivial)); (case aO => exact (by (with_reducible repeat (first | apply Kd.S_alloc | apply Kd.S_drewN | apply Kd.S_drew)); exact Kd.S_mono HO198.out (fun k_ hk => ⟨trivial, fun e_ => e_⟩))); (case aS => exact (keep_size (w := w) (g := g) (row := none) (zH HK))); (case aL => have := LMc57.out; omega); intro v231 w62 ho hb hg hat; rw [← Ny230.out] at ho; replace HL229_1 := Aside0.mk (Kd.R_after (ok := (fun _ => True)) (zR HL229_1) hg hat); replace HB := Aside0.mk (below_weaken (by repeat (first | (with_reducible first | exact HB.out | apply below_alloc | apply pw_below_drewN | apply below_drew1 | refine below_set ?_ (IsS75.ge HI0.out)) | exact HB.out)) HL.out hb); replace HI0 := Aside0.mk (IsS75.grown (spec_l9Any.zI75 HI0) hg (IsS75.own_neS HI0.out HO198.out (by decide))); replace HK := Aside0.mk (KeepBut.trans (zH HK) (KeepBut.of_grown hg g) (Kd.S_base2 HO198.out)); have HO232 := Aside0.mk (ho); clear HO198; clear ho hb hg hat))
      go_ret
      exact ⟨_, zE, by (with_reducible repeat (first | apply Kd.S_alloc | apply Kd.S_drewN | apply Kd.S_drew)); exact HO232.out, spec_l9Any.zI75 HI0, by repeat (first | (with_reducible first | exact HB.out | apply below_alloc | apply pw_below_drewN | apply below_drew1 | refine below_set ?_ (IsS75.ge HI0.out)) | exact HB.out), zH HK⟩
     ·rw [if_neg c55] at H
      have c55b0 : (t204 == 3) = false := beq_eq_false_iff_ne.mpr c55
      have c55b1 : (t204 != 3) = true := bne_iff_ne.mpr c55
      simp only [Option.some.injEq, Prod.mk.injEq] at H
      obtain ⟨rfl, rfl, rfl⟩ := H
      go_enter Try.func40, Try.ntmps40
      go_wp2_with (first | ((with_reducible refine gate_callee (f := 70) rfl ?_); refine goesL_ (some 6) rfl rfl Try.func70 (by kernel_rfl) rfl #[.pointer (some ⟨g, 0, none⟩)] rfl zG ?_; (with_reducible refine (spec_l9Draw.calls k g s0_0 s0_1 s0_2 t196 t199 t200 w0 _ ?side1 ?side2 A2.out).mono ?_); (case side1 => exact spec_l9Any.zI75 HI0); (case side2 => repeat (first | (with_reducible first | exact HB.out | apply below_alloc | apply pw_below_drewN | apply below_drew1 | refine below_set ?_ (IsS75.ge HI0.out)) | exact HB.out)); rintro e w63 ⟨v197, rfl, ho0, hi, hb, hk⟩; refine ⟨_, rfl, ?_⟩; have HO198 := Aside0.mk (Kd.S_lower ho0 (keep_size (w := w) (g := g) (row := none) (zH HK))); replace HK := Aside0.mk (KeepBut.trans (zH HK) hk (.inl rfl)); replace HB := Aside0.mk (hb); replace HI0 := Aside0.mk (hi); (try clear hb); (try clear ho0); obtain ⟨Ao64, co64, eo64⟩ := Kd.S_slice HO198.out; subst eo64) | ((with_reducible refine gate_callee (f := 42) rfl ?_); refine goesL_ (some 14) rfl rfl Try.func42 (by kernel_rfl) rfl #[.pointer (some ⟨g, 0, none⟩), .int .i64 (t196.length : Int)] rfl zG ?_; (with_reducible refine (spec_l1Below.calls g s0_0 t199 t200 (t196.length : Int) t201 t202 t203 w0 _ ?side1 ?side2 A6.out).mono ?_); (case side1 => exact spec_l9Any.zI75 HI0); (case side2 => repeat (first | (with_reducible first | exact HB.out | apply below_alloc | apply pw_below_drewN | apply below_drew1 | refine below_set ?_ (IsS75.ge HI0.out)) | exact HB.out)); rintro e w65 ⟨rfl, hi, hb, hk⟩; refine ⟨_, rfl, ?_⟩; replace HO198 := Aside0.mk (Kd.S_mono (Kd.S_keep (IsS75.apartS (show IsS75 w0 _ g s0_0 t199 t200 from spec_l9Any.zI75 HI0) (zS HO198) (by decide)) hk (fun _ h => h.2)) (fun _ h => h.1)); replace HK := Aside0.mk (KeepBut.trans (zH HK) hk (.inl rfl)); replace HB := Aside0.mk (hb); replace HI0 := Aside0.mk (hi); (try clear hb)) | ((with_reducible refine gate_callee (f := 42) rfl ?_); refine goesL_ (some 16) rfl rfl Try.func42 (by kernel_rfl) rfl #[.pointer (some ⟨g, 0, none⟩), .int .i64 9] rfl zG ?_; (with_reducible refine (spec_l1Below.calls g s0_0 t202 t203 9 t204 t205 t206 w0 _ ?side1 ?side2 A7.out).mono ?_); (case side1 => exact spec_l9Any.zI75 HI0); (case side2 => repeat (first | (with_reducible first | exact HB.out | apply below_alloc | apply pw_below_drewN | apply below_drew1 | refine below_set ?_ (IsS75.ge HI0.out)) | exact HB.out)); rintro e w66 ⟨rfl, hi, hb, hk⟩; refine ⟨_, rfl, ?_⟩; replace HO198 := Aside0.mk (Kd.S_mono (Kd.S_keep (IsS75.apartS (show IsS75 w0 _ g s0_0 t202 t203 from spec_l9Any.zI75 HI0) (zS HO198) (by decide)) hk (fun _ h => h.2)) (fun _ h => h.1)); replace HK := Aside0.mk (KeepBut.trans (zH HK) hk (.inl rfl)); replace HB := Aside0.mk (hb); replace HI0 := Aside0.mk (hi); (try clear hb)))
      go_ret
      exact ⟨_, zE, by (with_reducible repeat (first | apply Kd.S_alloc | apply Kd.S_drewN | apply Kd.S_drew)); exact HO198.out, spec_l9Any.zI75 HI0, by repeat (first | (with_reducible first | exact HB.out | apply below_alloc | apply pw_below_drewN | apply below_drew1 | refine below_set ?_ (IsS75.ge HI0.out)) | exact HB.out), zH HK⟩

/-! ### spec_l1Once: function 41 -/
def spec_l1Once.f (s0_0 : List Int) (s0_1 : Int) (s0_2 : Int) (a1 : Int) : Option (Bool × Int × Int) := (spec_l1Below.f s0_0 s0_1 s0_2 a1).bind fun bt233 => (some ((bt233.1 == 0), bt233.2.1, bt233.2.2))
set_option maxHeartbeats 8000000 in
set_option maxRecDepth 100000 in
theorem spec_l1Once.calls (g : Nat) (s0_0 : List Int) (s0_1 : Int) (s0_2 : Int) (a1 : Int) (r1 : Bool) (r2 : Int) (r3 : Int) (w0 w : World) (hI : IsS75 w0 w g s0_0 s0_1 s0_2) (hB : Below w0.heap.size w0 w) (h : spec_l1Once.f s0_0 s0_1 s0_2 a1 = some (r1, r2, r3)) :
  Calls Try.prog 41 #[.pointer (some ⟨g, 0, none⟩), .int .i64 a1] w fun e w' => e = .returned (.bool r1) ∧ IsS75 w0 w' g s0_0 r2 r3 ∧ Below w0.heap.size w0 w' ∧ KeepBut w w' g none := by
 have HI0 := Aside0.mk hI
 have HK := Aside0.mk (KeepBut.refl w g none)
 have HL := Aside0.mk hB.size
 clear hI
 have HW0 := Aside0.mk hB.size
 have HB := Aside0.mk hB
 clear hB
 have H : ((spec_l1Below.f s0_0 s0_1 s0_2 a1).bind fun bt233 => (some ((bt233.1 == 0), bt233.2.1, bt233.2.2))) = some (r1, r2, r3) := h
 clear h
 replace H := Option.bind_eq_some_iff.mp H
 obtain ⟨⟨t233, t234, t235⟩, A30, H⟩ := H
 replace H : (some ((t233 == 0), t234, t235)) = some (r1, r2, r3) := H
 have A3 := Aside0.mk A30
 clear A30
 simp only [Option.some.injEq, Prod.mk.injEq] at H
 obtain ⟨rfl, rfl, rfl⟩ := H
 go_enter Try.func41, Try.ntmps41
 go_wp2_with (first | ((with_reducible refine gate_callee (f := 42) rfl ?_); refine goesL_ (some 7) rfl rfl Try.func42 (by kernel_rfl) rfl #[.pointer (some ⟨g, 0, none⟩), .int .i64 a1] rfl zG ?_; (with_reducible refine (spec_l1Below.calls g s0_0 s0_1 s0_2 a1 t233 t234 t235 w0 _ ?side1 ?side2 A3.out).mono ?_); (case side1 => repeat (first | (with_reducible first | exact HI0.out | apply IsS75.alloc | apply IsS75.drewN | apply IsS75.drew | apply IsS75.set_1 | apply IsS75.set_2) | exact HI0.out)); (case side2 => repeat (first | (with_reducible first | exact HB.out | apply below_alloc | apply pw_below_drewN | apply below_drew1 | refine below_set ?_ (IsS75.ge HI0.out)) | exact HB.out)); rintro e w4 ⟨rfl, hi, hb, hk⟩; refine ⟨_, rfl, ?_⟩; replace HK := Aside0.mk (KeepBut.trans (zH HK) hk (.inl rfl)); replace HB := Aside0.mk (hb); replace HI0 := Aside0.mk (hi); (try clear hb)))
 go_ret
 exact ⟨zE, by repeat (first | (with_reducible first | exact HI0.out | apply IsS75.alloc | apply IsS75.drewN | apply IsS75.drew | apply IsS75.set_1 | apply IsS75.set_2) | exact HI0.out), by repeat (first | (with_reducible first | exact HB.out | apply below_alloc | apply pw_below_drewN | apply below_drew1 | refine below_set ?_ (IsS75.ge HI0.out)) | exact HB.out), zH HK⟩

/-! ### spec_DrawAddGrease: function 13 -/
def spec_DrawAddGrease.f (k : Nat) (l0 : List Int) : Option ((List (S46)) × Int) := (spec_l1New.f k l0).bind fun bt236 => ((spec_l9Any.f k bt236.1 bt236.2.1 bt236.2.2).bind fun bt240 => ((spec_l1Once.f bt236.1 bt240.2.1 bt240.2.2 8).bind fun bt245 => (if bt245.1 = true then ((spec_l1Below.f bt236.1 bt245.2.1 bt245.2.2 100).bind fun bt251 => (some ((([(⟨1, ([] : List Int)⟩ : S46), (⟨2, ([] : List Int)⟩ : S46), (⟨3, ([] : List Int)⟩ : S46), (⟨4, ([] : List Int)⟩ : S46), (⟨5, ([] : List Int)⟩ : S46), (⟨6, ([] : List Int)⟩ : S46)] : List (S46))), bt251.1))) else ((spec_l1Below.f bt236.1 bt245.2.1 bt245.2.2 100).bind fun bt254 => (some (bt240.1, bt254.1))))))
theorem spec_DrawAddGrease.mono : ∀ a0 k, LeO (spec_DrawAddGrease.f k a0) (spec_DrawAddGrease.f (k + 1) a0) := by
 intro a0 k
 unfold spec_DrawAddGrease.f
 repeat' first
   | (with_reducible exact spec_l1New.mono _ _)
   | (with_reducible exact spec_l9Any.mono _ _ _ _)
   | (with_reducible exact LeO.refl _)
   | (with_reducible exact LeO.none _)
   | (with_reducible refine LeO.ite ?_ ?_)
   | (with_reducible refine LeO.bind ?_ (fun _ => ?_))
   | exact spec_l1New.mono _ _
   | exact spec_l9Any.mono _ _ _ _
   | exact LeO.none _
   | refine LeO.ite ?_ ?_
   | refine LeO.bind ?_ (fun _ => ?_)
theorem spec_DrawAddGrease.zI75 {P Q : Prop} (h : Aside0 P) (hw : P → Q := by intro h_; repeat (first | (with_reducible first | exact h_ | apply IsS75.alloc | apply IsS75.drew | apply IsS75.drewN | apply IsS75.set_1 | apply IsS75.set_2) | exact h_)) : Q := hw h.out
set_option maxHeartbeats 8000000 in
set_option maxRecDepth 100000 in
theorem spec_DrawAddGrease.calls (k : Nat) (A0 : Option Addr) (c0 : Nat) (l0 : List Int) (r1 : List (S46)) (r2 : Int) (w : World) (hr0 : Kd.C (Kd.int .u8) w A0 l0.length l0) (hc0 : l0.length ≤ c0) (h : spec_DrawAddGrease.f k l0 = some (r1, r2)) :
  Calls Try.prog 13 #[.slice A0 l0.length c0] w fun e w' => ∃ v0_ : Value, e = .returned (.tuple #[v0_, .int .i64 r2]) ∧ Kd.S k46 46 w' w.heap.size (fun _ => True) v0_ r1 ∧ Below w.heap.size w w' := by
 have hu46 := Try.underlying46
 have HR0 := Aside0.mk hr0
 have HC0 := Aside0.mk hc0
 clear hr0 hc0
 have HB := Aside0.mk (Below.refl w.heap.size w)
 have H : ((spec_l1New.f k l0).bind fun bt236 => ((spec_l9Any.f k bt236.1 bt236.2.1 bt236.2.2).bind fun bt240 => ((spec_l1Once.f bt236.1 bt240.2.1 bt240.2.2 8).bind fun bt245 => (if bt245.1 = true then ((spec_l1Below.f bt236.1 bt245.2.1 bt245.2.2 100).bind fun bt251 => (some ((([(⟨1, ([] : List Int)⟩ : S46), (⟨2, ([] : List Int)⟩ : S46), (⟨3, ([] : List Int)⟩ : S46), (⟨4, ([] : List Int)⟩ : S46), (⟨5, ([] : List Int)⟩ : S46), (⟨6, ([] : List Int)⟩ : S46)] : List (S46))), bt251.1))) else ((spec_l1Below.f bt236.1 bt245.2.1 bt245.2.2 100).bind fun bt254 => (some (bt240.1, bt254.1))))))) = some (r1, r2) := h
 clear h
 replace H := Option.bind_eq_some_iff.mp H
 obtain ⟨⟨t236, t237, t238⟩, A20, H⟩ := H
 replace H : ((spec_l9Any.f k t236 t237 t238).bind fun bt240 => ((spec_l1Once.f t236 bt240.2.1 bt240.2.2 8).bind fun bt245 => (if bt245.1 = true then ((spec_l1Below.f t236 bt245.2.1 bt245.2.2 100).bind fun bt251 => (some ((([(⟨1, ([] : List Int)⟩ : S46), (⟨2, ([] : List Int)⟩ : S46), (⟨3, ([] : List Int)⟩ : S46), (⟨4, ([] : List Int)⟩ : S46), (⟨5, ([] : List Int)⟩ : S46), (⟨6, ([] : List Int)⟩ : S46)] : List (S46))), bt251.1))) else ((spec_l1Below.f t236 bt245.2.1 bt245.2.2 100).bind fun bt254 => (some (bt240.1, bt254.1)))))) = some (r1, r2) := H
 have A2 := Aside0.mk A20
 clear A20
 replace H := Option.bind_eq_some_iff.mp H
 obtain ⟨⟨t240, t243, t244⟩, A30, H⟩ := H
 replace H : ((spec_l1Once.f t236 t243 t244 8).bind fun bt245 => (if bt245.1 = true then ((spec_l1Below.f t236 bt245.2.1 bt245.2.2 100).bind fun bt251 => (some ((([(⟨1, ([] : List Int)⟩ : S46), (⟨2, ([] : List Int)⟩ : S46), (⟨3, ([] : List Int)⟩ : S46), (⟨4, ([] : List Int)⟩ : S46), (⟨5, ([] : List Int)⟩ : S46), (⟨6, ([] : List Int)⟩ : S46)] : List (S46))), bt251.1))) else ((spec_l1Below.f t236 bt245.2.1 bt245.2.2 100).bind fun bt254 => (some (t240, bt254.1))))) = some (r1, r2) := H
 have A3 := Aside0.mk A30
 clear A30
 replace H := Option.bind_eq_some_iff.mp H
 obtain ⟨⟨t245, t246, t247⟩, A40, H⟩ := H
 replace H : (if t245 = true then ((spec_l1Below.f t236 t246 t247 100).bind fun bt251 => (some ((([(⟨1, ([] : List Int)⟩ : S46), (⟨2, ([] : List Int)⟩ : S46), (⟨3, ([] : List Int)⟩ : S46), (⟨4, ([] : List Int)⟩ : S46), (⟨5, ([] : List Int)⟩ : S46), (⟨6, ([] : List Int)⟩ : S46)] : List (S46))), bt251.1))) else ((spec_l1Below.f t236 t246 t247 100).bind fun bt254 => (some (t240, bt254.1)))) = some (r1, r2) := H
 have A4 := Aside0.mk A40
 clear A40
 by_cases c5 : t245 = true
 ·subst c5
  have H1 : ((spec_l1Below.f t236 t246 t247 100).bind fun bt251 => (some ((([(⟨1, ([] : List Int)⟩ : S46), (⟨2, ([] : List Int)⟩ : S46), (⟨3, ([] : List Int)⟩ : S46), (⟨4, ([] : List Int)⟩ : S46), (⟨5, ([] : List Int)⟩ : S46), (⟨6, ([] : List Int)⟩ : S46)] : List (S46))), bt251.1))) = some (r1, r2) := by rw [if_pos rfl] at H; exact H
  clear H
  have H := H1
  clear H1
  obtain ⟨y248, hy248⟩ : ∃ y_ : List (S46), y_ = (([(⟨1, ([] : List Int)⟩ : S46), (⟨2, ([] : List Int)⟩ : S46), (⟨3, ([] : List Int)⟩ : S46), (⟨4, ([] : List Int)⟩ : S46), (⟨5, ([] : List Int)⟩ : S46), (⟨6, ([] : List Int)⟩ : S46)] : List (S46))) := ⟨_, rfl⟩
  replace H : ((spec_l1Below.f t236 t246 t247 100).bind fun bt251 => (some (y248, bt251.1))) = some (r1, r2) := by first | (rw [hy248]; with_reducible exact H) | (have H2_ := (Option.bind_some _ _).symm.trans H; rw [hy248]; with_reducible exact H2_) | (have H2_ := (Option.bind_some _ _).symm.trans H; with_reducible exact H2_) | with_reducible exact H | (rw [hy248]; exact H) | exact H
  have Ny248 := Aside0.mk hy248
  clear hy248
  replace H := Option.bind_eq_some_iff.mp H
  obtain ⟨⟨t251, t252, t253⟩, A60, H⟩ := H
  replace H : (some (y248, t251)) = some (r1, r2) := H
  have A6 := Aside0.mk A60
  clear A60
  simp only [Option.some.injEq, Prod.mk.injEq] at H
  obtain ⟨rfl, rfl⟩ := H
  go_enter Try.func13, Try.ntmps13
  go_wp2_with (first | ((with_reducible refine gate_callee (f := 39) rfl ?_); refine goesL_ (some 7) rfl rfl Try.func39 (by kernel_rfl) rfl #[.slice A0 l0.length c0] rfl zG ?_; (with_reducible refine (spec_l1New.calls k _ _ l0 t236 t237 t238 w _ ?side1 ?side2 ?side3 A2.out).mono ?_); (case side1 => repeat (first | (with_reducible first | exact HB.out | apply below_alloc | apply pw_below_drewN | apply below_drew1) | exact HB.out)); (case side2 => exact HR0.out); (case side3 => exact HC0.out); rintro e w7 ⟨g239, rfl, hi, hb, hb2⟩; refine ⟨_, rfl, ?_⟩; replace HB := Aside0.mk (hb); have HI239 := Aside0.mk (hi); (try clear hb)) | ((with_reducible refine gate_callee (f := 40) rfl ?_); refine goesL_ (some 9) rfl rfl Try.func40 (by kernel_rfl) rfl #[.pointer (some ⟨g239, 0, none⟩)] rfl zG ?_; (with_reducible refine (spec_l9Any.calls k g239 t236 t237 t238 t240 t243 t244 w _ ?side1 ?side2 A3.out).mono ?_); (case side1 => exact spec_DrawAddGrease.zI75 HI239); (case side2 => repeat (first | (with_reducible first | exact HB.out | apply below_alloc | apply pw_below_drewN | apply below_drew1 | refine below_set ?_ (IsS75.ge HI239.out)) | exact HB.out)); rintro e w8 ⟨v241, rfl, ho0, hi, hb, hk⟩; refine ⟨_, rfl, ?_⟩; have HO242 := Aside0.mk (Kd.S_lower ho0 (below_size (by repeat (first | (with_reducible first | exact HB.out | apply below_alloc | apply pw_below_drewN | apply below_drew1 | refine below_set ?_ (IsS75.ge HI239.out)) | exact HB.out)))); replace HB := Aside0.mk (hb); replace HI239 := Aside0.mk (hi); (try clear hb); (try clear ho0)) | ((with_reducible refine gate_callee (f := 41) rfl ?_); refine goesL_ (some 11) rfl rfl Try.func41 (by kernel_rfl) rfl #[.pointer (some ⟨g239, 0, none⟩), .int .i64 8] rfl zG ?_; (with_reducible refine (spec_l1Once.calls g239 t236 t243 t244 8 true t246 t247 w _ ?side1 ?side2 A4.out).mono ?_); (case side1 => exact spec_DrawAddGrease.zI75 HI239); (case side2 => repeat (first | (with_reducible first | exact HB.out | apply below_alloc | apply pw_below_drewN | apply below_drew1 | refine below_set ?_ (IsS75.ge HI239.out)) | exact HB.out)); rintro e w9 ⟨rfl, hi, hb, hk⟩; refine ⟨_, rfl, ?_⟩; replace HO242 := Aside0.mk (Kd.S_mono (Kd.S_keep (IsS75.apartS (show IsS75 w _ g239 t236 t243 t244 from spec_DrawAddGrease.zI75 HI239) (zS HO242) (by decide)) hk (fun _ h => h.2)) (fun _ h => h.1)); replace HB := Aside0.mk (hb); replace HI239 := Aside0.mk (hi); (try clear hb)) | ((with_reducible refine gate_dst (N := 18) rfl ?_); refine Kd.S_lit k46 _ 46 ?hg (N := 18) ?hd (xs := ([(⟨1, ([] : List Int)⟩ : S46), (⟨2, ([] : List Int)⟩ : S46), (⟨3, ([] : List Int)⟩ : S46), (⟨4, ([] : List Int)⟩ : S46), (⟨5, ([] : List Int)⟩ : S46), (⟨6, ([] : List Int)⟩ : S46)] : List (S46))) (inner := [.int .i64 1, .slice none 0 0, .int .i64 2, .slice none 0 0, .int .i64 3, .slice none 0 0, .int .i64 4, .slice none 0 0, .int .i64 5, .slice none 0 0, .int .i64 6, .slice none 0 0]) (ok := fun _ => True) (okp := fun _ => True) ?hr ?hp (fun _ hk => hk) trivial (Below.refl _ _) (Nat.le_refl _) (by simp) ?_; (case hd => rfl); (case hg => rfl); (case hr => first | (go_simp; done) | (go_simp; rfl)); (case hp => exact (Reps.c2 (show Kd.M k46 _ _ _ (⟨1, ([] : List Int)⟩ : S46) [.int .i64 1, .slice none 0 0] from (k46_mkM _ _ _ (⟨1, ([] : List Int)⟩ : S46) (Kd.R_nil _ _ _ _ _))) (Reps.c2 (show Kd.M k46 _ _ _ (⟨2, ([] : List Int)⟩ : S46) [.int .i64 2, .slice none 0 0] from (k46_mkM _ _ _ (⟨2, ([] : List Int)⟩ : S46) (Kd.R_nil _ _ _ _ _))) (Reps.c2 (show Kd.M k46 _ _ _ (⟨3, ([] : List Int)⟩ : S46) [.int .i64 3, .slice none 0 0] from (k46_mkM _ _ _ (⟨3, ([] : List Int)⟩ : S46) (Kd.R_nil _ _ _ _ _))) (Reps.c2 (show Kd.M k46 _ _ _ (⟨4, ([] : List Int)⟩ : S46) [.int .i64 4, .slice none 0 0] from (k46_mkM _ _ _ (⟨4, ([] : List Int)⟩ : S46) (Kd.R_nil _ _ _ _ _))) (Reps.c2 (show Kd.M k46 _ _ _ (⟨5, ([] : List Int)⟩ : S46) [.int .i64 5, .slice none 0 0] from (k46_mkM _ _ _ (⟨5, ([] : List Int)⟩ : S46) (Kd.R_nil _ _ _ _ _))) (Reps.c2 (show Kd.M k46 _ _ _ (⟨6, ([] : List Int)⟩ : S46) [.int .i64 6, .slice none 0 0] from (k46_mkM _ _ _ (⟨6, ([] : List Int)⟩ : S46) (Kd.R_nil _ _ _ _ _))) (Reps.none _ _)))))))); intro v249 w10 ho11 hb hg_ hnew_; clear hg_ hnew_; (first | rw [← Ny248.out] at ho11 | (simp only [Int.reduceToNat] at ho11; rw [← Ny248.out] at ho11)); have HO250 := Aside0.mk (Kd.S_lower (Kd.S_new' ho11 (Kd.S_lt (zS HO242))) (below_size (by repeat (first | (with_reducible first | exact HB.out | apply below_alloc | apply pw_below_drewN | apply below_drew1 | refine below_set ?_ (IsS75.ge HI239.out)) | exact HB.out)))); replace HO242 := Aside0.mk (Kd.S_elder' (zS HO242) (Kd.S_base ho11) hb); replace HB := Aside0.mk (below_step (by repeat (first | (with_reducible first | exact HB.out | apply below_alloc | apply pw_below_drewN | apply below_drew1 | refine below_set ?_ (IsS75.ge HI239.out)) | exact HB.out)) hb); replace HI239 := Aside0.mk (IsS75.below (spec_DrawAddGrease.zI75 HI239) hb); clear hb ho11) | ((with_reducible refine gate_callee (f := 42) rfl ?_); refine goesL_ (some 21) rfl rfl Try.func42 (by kernel_rfl) rfl #[.pointer (some ⟨g239, 0, none⟩), .int .i64 100] rfl zG ?_; (with_reducible refine (spec_l1Below.calls g239 t236 t246 t247 100 t251 t252 t253 w _ ?side1 ?side2 A6.out).mono ?_); (case side1 => exact spec_DrawAddGrease.zI75 HI239); (case side2 => repeat (first | (with_reducible first | exact HB.out | apply below_alloc | apply pw_below_drewN | apply below_drew1 | refine below_set ?_ (IsS75.ge HI239.out)) | exact HB.out)); rintro e w12 ⟨rfl, hi, hb, hk⟩; refine ⟨_, rfl, ?_⟩; replace HO242 := Aside0.mk (Kd.S_mono (Kd.S_keep (IsS75.apartS (show IsS75 w _ g239 t236 t246 t247 from spec_DrawAddGrease.zI75 HI239) (zS HO242) (by decide)) hk (fun _ h => h.2)) (fun _ h => h.1)); replace HO250 := Aside0.mk (Kd.S_mono (Kd.S_keep (IsS75.apartS (show IsS75 w _ g239 t236 t246 t247 from spec_DrawAddGrease.zI75 HI239) (zS HO250) (by decide)) hk (fun _ h => h.2)) (fun _ h => h.1)); replace HB := Aside0.mk (hb); replace HI239 := Aside0.mk (hi); (try clear hb)))
  go_ret2
  exact ⟨_, zE, by (with_reducible repeat (first | apply Kd.S_alloc | apply Kd.S_drewN | apply Kd.S_drew)); exact Kd.S_mono HO250.out (fun _ hk => trivial), by repeat (first | (with_reducible first | exact HB.out | apply below_alloc | apply pw_below_drewN | apply below_drew1 | refine below_set ?_ (IsS75.ge HI239.out)) | exact HB.out)⟩
 ·replace c5 := Bool.eq_false_iff.mpr c5
  subst c5
  have H1 : ((spec_l1Below.f t236 t246 t247 100).bind fun bt254 => (some (t240, bt254.1))) = some (r1, r2) := by rw [if_neg (show ¬ (false = true) by decide)] at H; exact H
  clear H
  have H := H1
  clear H1
  replace H := Option.bind_eq_some_iff.mp H
  obtain ⟨⟨t254, t255, t256⟩, A130, H⟩ := H
  replace H : (some (t240, t254)) = some (r1, r2) := H
  have A13 := Aside0.mk A130
  clear A130
  simp only [Option.some.injEq, Prod.mk.injEq] at H
  obtain ⟨rfl, rfl⟩ := H
  go_enter Try.func13, Try.ntmps13
  go_wp2_with (first | ((with_reducible refine gate_callee (f := 39) rfl ?_); refine goesL_ (some 7) rfl rfl Try.func39 (by kernel_rfl) rfl #[.slice A0 l0.length c0] rfl zG ?_; (with_reducible refine (spec_l1New.calls k _ _ l0 t236 t237 t238 w _ ?side1 ?side2 ?side3 A2.out).mono ?_); (case side1 => repeat (first | (with_reducible first | exact HB.out | apply below_alloc | apply pw_below_drewN | apply below_drew1) | exact HB.out)); (case side2 => exact HR0.out); (case side3 => exact HC0.out); rintro e w14 ⟨g239, rfl, hi, hb, hb2⟩; refine ⟨_, rfl, ?_⟩; replace HB := Aside0.mk (hb); have HI239 := Aside0.mk (hi); (try clear hb)) | ((with_reducible refine gate_callee (f := 40) rfl ?_); refine goesL_ (some 9) rfl rfl Try.func40 (by kernel_rfl) rfl #[.pointer (some ⟨g239, 0, none⟩)] rfl zG ?_; (with_reducible refine (spec_l9Any.calls k g239 t236 t237 t238 t240 t243 t244 w _ ?side1 ?side2 A3.out).mono ?_); (case side1 => exact spec_DrawAddGrease.zI75 HI239); (case side2 => repeat (first | (with_reducible first | exact HB.out | apply below_alloc | apply pw_below_drewN | apply below_drew1 | refine below_set ?_ (IsS75.ge HI239.out)) | exact HB.out)); rintro e w15 ⟨v241, rfl, ho0, hi, hb, hk⟩; refine ⟨_, rfl, ?_⟩; have HO242 := Aside0.mk (Kd.S_lower ho0 (below_size (by repeat (first | (with_reducible first | exact HB.out | apply below_alloc | apply pw_below_drewN | apply below_drew1 | refine below_set ?_ (IsS75.ge HI239.out)) | exact HB.out)))); replace HB := Aside0.mk (hb); replace HI239 := Aside0.mk (hi); (try clear hb); (try clear ho0)) | ((with_reducible refine gate_callee (f := 41) rfl ?_); refine goesL_ (some 11) rfl rfl Try.func41 (by kernel_rfl) rfl #[.pointer (some ⟨g239, 0, none⟩), .int .i64 8] rfl zG ?_; (with_reducible refine (spec_l1Once.calls g239 t236 t243 t244 8 false t246 t247 w _ ?side1 ?side2 A4.out).mono ?_); (case side1 => exact spec_DrawAddGrease.zI75 HI239); (case side2 => repeat (first | (with_reducible first | exact HB.out | apply below_alloc | apply pw_below_drewN | apply below_drew1 | refine below_set ?_ (IsS75.ge HI239.out)) | exact HB.out)); rintro e w16 ⟨rfl, hi, hb, hk⟩; refine ⟨_, rfl, ?_⟩; replace HO242 := Aside0.mk (Kd.S_mono (Kd.S_keep (IsS75.apartS (show IsS75 w _ g239 t236 t243 t244 from spec_DrawAddGrease.zI75 HI239) (zS HO242) (by decide)) hk (fun _ h => h.2)) (fun _ h => h.1)); replace HB := Aside0.mk (hb); replace HI239 := Aside0.mk (hi); (try clear hb)) | ((with_reducible refine gate_callee (f := 42) rfl ?_); refine goesL_ (some 21) rfl rfl Try.func42 (by kernel_rfl) rfl #[.pointer (some ⟨g239, 0, none⟩), .int .i64 100] rfl zG ?_; (with_reducible refine (spec_l1Below.calls g239 t236 t246 t247 100 t254 t255 t256 w _ ?side1 ?side2 A13.out).mono ?_); (case side1 => exact spec_DrawAddGrease.zI75 HI239); (case side2 => repeat (first | (with_reducible first | exact HB.out | apply below_alloc | apply pw_below_drewN | apply below_drew1 | refine below_set ?_ (IsS75.ge HI239.out)) | exact HB.out)); rintro e w17 ⟨rfl, hi, hb, hk⟩; refine ⟨_, rfl, ?_⟩; replace HO242 := Aside0.mk (Kd.S_mono (Kd.S_keep (IsS75.apartS (show IsS75 w _ g239 t236 t246 t247 from spec_DrawAddGrease.zI75 HI239) (zS HO242) (by decide)) hk (fun _ h => h.2)) (fun _ h => h.1)); replace HB := Aside0.mk (hb); replace HI239 := Aside0.mk (hi); (try clear hb)))
  go_ret2
  exact ⟨_, zE, by (with_reducible repeat (first | apply Kd.S_alloc | apply Kd.S_drewN | apply Kd.S_drew)); exact HO242.out, by repeat (first | (with_reducible first | exact HB.out | apply below_alloc | apply pw_below_drewN | apply below_drew1 | refine below_set ?_ (IsS75.ge HI239.out)) | exact HB.out)⟩

/-! ### impl_IsReserved: function 15 -/
def impl_IsReserved.f (a0 : Int) : Option (Bool) := (impl_InRange.f a0 0 255).bind fun t257 => (if t257 = true then (some ((Int.tmod a0 16) == 10)) else (some false))
set_option maxHeartbeats 8000000 in
set_option maxRecDepth 100000 in
theorem impl_IsReserved.calls (a0 : Int) (r : Bool) (w : World) (h : impl_IsReserved.f a0 = some r) :
  Calls Try.prog 15 #[.int .i64 a0] w fun e w' => e = .returned (.bool r) ∧ Drawn0 w w' := by
 have H : ((impl_InRange.f a0 0 255).bind fun t257 => (if t257 = true then (some ((Int.tmod a0 16) == 10)) else (some false))) = some r := h
 clear h
 obtain ⟨t257, A2, H⟩ := bindS H
 by_cases c3 : t257 = true
 ·subst c3
  have H1 : (some ((Int.tmod a0 16) == 10)) = some r := by rw [if_pos rfl] at H; exact H
  clear H
  have H := H1
  clear H1
  obtain rfl := Option.some.inj H
  go_enter Try.func15, Try.ntmps15
  go_wp2_with (first | ((with_reducible refine gate_callee (f := 43) rfl ?_); refine goesL_ (some 4) rfl rfl Try.func43 (by kernel_rfl) rfl #[.int .i64 a0, .int .i64 0, .int .i64 255] rfl zG ?_; (with_reducible refine (impl_InRange.calls a0 0 255 true _ A2.out).mono ?_); rintro e w' ⟨rfl, ⟨nd, rfl⟩⟩; refine ⟨_, rfl, ?_⟩))
  go_ret
  exact ⟨by first | rfl | (simp; done) | (simp [*]; done), by repeat (first | exact Drawn0.refl _ | apply Drawn0.step)⟩
 ·replace c3 := Bool.eq_false_iff.mpr c3
  subst c3
  have H1 : (some false) = some r := by rw [if_neg (show ¬ (false = true) by decide)] at H; exact H
  clear H
  have H := H1
  clear H1
  obtain rfl := Option.some.inj H
  go_enter Try.func15, Try.ntmps15
  go_wp2_with (first | ((with_reducible refine gate_callee (f := 43) rfl ?_); refine goesL_ (some 4) rfl rfl Try.func43 (by kernel_rfl) rfl #[.int .i64 a0, .int .i64 0, .int .i64 255] rfl zG ?_; (with_reducible refine (impl_InRange.calls a0 0 255 false _ A2.out).mono ?_); rintro e w' ⟨rfl, ⟨nd, rfl⟩⟩; refine ⟨_, rfl, ?_⟩))
  go_ret
  exact ⟨by first | rfl | (simp; done) | (simp [*]; done), by repeat (first | exact Drawn0.refl _ | apply Drawn0.step)⟩

/-- What impl_Ext_45 is handed. -/
class KEEP_impl_Ext_45 where
 f : Nat → Int → List Int → Int → List Int → Option (Bool)
 mono : ∀ x0 x1 x2 x3 k, LeO (f k x0 x1 x2 x3) (f (k + 1) x0 x1 x2 x3)
section
variable [inst_ : KEEP_impl_Ext_45]
/-! ### impl_Ext_45: function 45 -/
def impl_Ext_45.l0 : Nat → List (S46) → List (S46) → Int → Int → Option (Bool)
 | 0, _, _, _, _ => none
 | k + 1, x1, x15, x16, x17 => if x17 < x16 then (if 0 ≤ x17 then (if x17 < (x15.length : Int) then (if x17 < (x1.length : Int) then ((KEEP_impl_Ext_45.f k ((rd_T46 x15 x17).f0) ((rd_T46 x15 x17).f1) ((rd_T46 x1 x17).f0) ((rd_T46 x1 x17).f1)).bind fun t262 => (if t262 = true then (impl_Ext_45.l0 k x1 x15 x16 (wrap64 (x17 + 1))) else (some false))) else (none)) else (none)) else (none)) else (some true)
def impl_Ext_45.f (k : Nat) (l0 : List (S46)) (l1 : List (S46)) : Option (Bool) := if (l0.length : Int) = (l1.length : Int) then (impl_Ext_45.l0 k l1 l0 (l0.length : Int) 0) else (some false)
theorem impl_Ext_45.mono_l : ∀ k, (∀ y0 y1 y2 y3, LeO (impl_Ext_45.l0 k y0 y1 y2 y3) (impl_Ext_45.l0 (k + 1) y0 y1 y2 y3))
 | 0 => fun _ _ _ _ r h => by simp [impl_Ext_45.l0] at h
 | k + 1 => by
  have ih0 := impl_Ext_45.mono_l k
  ·intro y0 y1 y2 y3
   unfold impl_Ext_45.l0
   repeat' first
   | (with_reducible exact ih0 _ _ _ _)
   | (with_reducible exact KEEP_impl_Ext_45.mono _ _ _ _ _)
   | (with_reducible exact LeO.refl _)
   | (with_reducible exact LeO.none _)
   | (with_reducible refine LeO.ite ?_ ?_)
   | (with_reducible refine LeO.bind ?_ (fun _ => ?_))
   | exact ih0 _ _ _ _
   | exact KEEP_impl_Ext_45.mono _ _ _ _ _
   | exact LeO.none _
   | refine LeO.ite ?_ ?_
   | refine LeO.bind ?_ (fun _ => ?_)
theorem impl_Ext_45.mono : ∀ a0 a1 k, LeO (impl_Ext_45.f k a0 a1) (impl_Ext_45.f (k + 1) a0 a1) := by
 intro a0 a1 k
 have ih0 := impl_Ext_45.mono_l k
 unfold impl_Ext_45.f
 repeat' first
   | (with_reducible exact ih0 _ _ _ _)
   | (with_reducible exact KEEP_impl_Ext_45.mono _ _ _ _ _)
   | (with_reducible exact LeO.refl _)
   | (with_reducible exact LeO.none _)
   | (with_reducible refine LeO.ite ?_ ?_)
   | (with_reducible refine LeO.bind ?_ (fun _ => ?_))
   | exact ih0 _ _ _ _
   | exact KEEP_impl_Ext_45.mono _ _ _ _ _
   | exact LeO.none _
   | refine LeO.ite ?_ ?_
   | refine LeO.bind ?_ (fun _ => ?_)
set_option maxHeartbeats 8000000 in
set_option maxRecDepth 100000 in
theorem impl_Ext_45.calls (k : Nat) (A0 : Option Addr) (c0 : Nat) (l0 : List (S46)) (A1 : Option Addr) (c1 : Nat) (l1 : List (S46)) (r : Bool) (w : World) (hr0 : Kd.C k46 w A0 l0.length l0) (hc0 : l0.length ≤ c0) (hr1 : Kd.C k46 w A1 l1.length l1) (hc1 : l1.length ≤ c1) {g_ : Nat} {fn_ : Func} {lb_ : Array Value} (hf_ : Try.prog.funcs[g_]? = some fn_) (hn_ : (fn_.name == "runtime.NumGoroutine") = false) (hbo_ : fn_.body.isSome = true) (hK_ : ∀ (k : Nat) (a0_0 : Int) (A0_1 : Option Addr) (c0_1 : Nat) (l0_1 : List Int) (a1_0 : Int) (A1_1 : Option Addr) (c1_1 : Nat) (l1_1 : List Int) (r : (Bool)) (W : World), Below w.heap.size w W → Kd.C (Kd.int .i64) W A0_1 l0_1.length l0_1 → l0_1.length ≤ c0_1 → Kd.C (Kd.int .i64) W A1_1 l1_1.length l1_1 → l1_1.length ≤ c1_1 → KEEP_impl_Ext_45.f k a0_0 l0_1 a1_0 l1_1 = some r → Calls Try.prog g_ (#[.agg #[.int .i64 a0_0, .slice A0_1 l0_1.length c0_1], .agg #[.int .i64 a1_0, .slice A1_1 l1_1.length c1_1]] ++ lb_) W fun e w' => e = .returned (.bool r) ∧ Below W.heap.size W w') (h : impl_Ext_45.f k l0 l1 = some r) :
  Calls Try.prog 45 #[.slice A0 l0.length c0, .slice A1 l1.length c1, .func (.func g_) #[] lb_] w fun e w' => e = .returned (.bool r) ∧ Below w.heap.size w w' := by
 have HF_ := Aside0.mk hf_
 have HN_ := Aside0.mk hn_
 have HBO_ := Aside0.mk hbo_
 have HKEEP_ := Aside0.mk hK_
 clear hf_ hn_ hbo_ hK_
 have hu46 := Try.underlying46
 have HR0 := Aside0.mk hr0
 have HC0 := Aside0.mk hc0
 clear hr0 hc0
 have HR1 := Aside0.mk hr1
 have HC1 := Aside0.mk hc1
 clear hr1 hc1
 have HB := Aside0.mk (Below.refl w.heap.size w)
 have H : (if (l0.length : Int) = (l1.length : Int) then (impl_Ext_45.l0 k l1 l0 (l0.length : Int) 0) else (some false)) = some r := h
 clear h
 by_cases c3 : (l0.length : Int) = (l1.length : Int)
 ·rw [if_pos c3] at H
  have c3b0 : ((l0.length : Int) == (l1.length : Int)) = true := beq_iff_eq.mpr c3
  have c3b1 : ((l0.length : Int) != (l1.length : Int)) = false := bne_eq_false_iff_eq.mpr c3
  have c3b2 : (l0.length == l1.length) = true := by first | simpa using c3 | (simp at c3 ⊢; omega)
  clear c3
  have H' := Aside0.mk H
  clear H
  go_enter Try.func45, Try.ntmps45
  go_wp2
  go_loopg [17] k (fun kq v17 w' => ∃ (x17_1 : Int), v17 = .int .i64 x17_1 ∧ Aside0 (impl_Ext_45.l0 kq l1 l0 (l0.length : Int) x17_1 = some r) ∧ Aside0 (kq ≤ k) ∧ Aside0 (Below w.heap.size w w'))
  case atStart => exact ⟨(0), zF, H', ⟨Nat.le_refl _⟩, ⟨zB HB⟩⟩
  case round =>
   clear H'
   try clear c1
   try clear p2
   try clear c3
   try clear c3b0
   try clear c3b1
   try clear c3b2
   obtain ⟨x17_1, rfl, HA, HK1, HB⟩ := hrel
   cases gk with
   | zero => exact absurd HA.out (by simp [impl_Ext_45.l0])
   | succ k1 =>
    have H := HA.out
    clear HA
    simp only [impl_Ext_45.l0] at H
    by_cases c4 : x17_1 < (l0.length : Int)
    ·rw [if_pos c4] at H
     have c4b0 : decide (x17_1 < (l0.length : Int)) = true := decide_eq_true c4
     clear c4
     obtain ⟨c5, H⟩ := ifS H
     have c5b0 : decide (0 ≤ x17_1) = true := decide_eq_true c5
     clear c5
     obtain ⟨c6, H⟩ := ifS H
     have c6b0 : decide (x17_1 < (l0.length : Int)) = true := decide_eq_true c6
     clear c6
     obtain ⟨c7, H⟩ := ifS H
     have c7b0 : decide (x17_1 < (l1.length : Int)) = true := decide_eq_true c7
     clear c7
     obtain ⟨t262, A8, H⟩ := bindS H
     by_cases c9 : t262 = true
     ·subst c9
      have H1 : (impl_Ext_45.l0 k1 l1 l0 (l0.length : Int) (wrap64 (x17_1 + 1))) = some r := by rw [if_pos rfl] at H; exact H
      clear H
      have H := H1
      clear H1
      have H' := Aside0.mk H
      clear H
      have p258 : 0 ≤ (x17_1 : Int) := zD
      have q258 : x17_1 < (l0.length : Int) := zD
      obtain ⟨ad258, A258_1, c258_1, e258, hx258_0, hx258_1, hl258_1, hi258_1⟩ := at_T46 HR0.out x17_1 p258 q258
      cases e258
      replace hx258_0 := hL HB hx258_0
      replace hx258_1 := hL HB hx258_1
      have HR258_1 := Aside0.mk hi258_1
      have HC258_1 := Aside0.mk hl258_1
      clear hi258_1 hl258_1
      replace p258 := eq_true p258
      replace q258 := eq_true q258
      go_wp2_with (first | ((with_reducible refine gate_dst (N := 8) rfl ?_); refine box_event ?hg (N := 8) ?hd (cs := #[.int .i64 0, .slice none 0 0]) (t := 46) ?hr ?_; (case hd => rfl); (case hg => rfl); (case hr => first | (go_simp; done) | (go_simp; rfl)); intro gb259 hg w10 hbox hb; have BK259 := Aside0.mk (hbox); have GW259 := gS HB hg; have GE259 := gS HB hg; replace HB := bS HB hb; clear hb hbox hg; have hcz11_0 := bc0 BK259; have hcz11_1 := bc1 BK259; have hfz11_0 := bf BK259 0; have hfz11_1 := bf BK259 1; have p260 : 0 ≤ (x17_1 : Int) := zD; have q260 : x17_1 < (l1.length : Int) := zD; obtain ⟨ad260, A260_1, c260_1, e260, hx260_0, hx260_1, hl260_1, hi260_1⟩ := at_T46 HR1.out x17_1 p260 q260; cases e260; have hn260_0 : ad260.block ≠ gb259 := Nat.ne_of_lt (Nat.lt_of_lt_of_le (by have := World.block_lt_of_cell? _ _ hx260_0; first | rwa [add_block] at this | exact this) GW259.out); have hn260_1 : ad260.block ≠ gb259 := Nat.ne_of_lt (Nat.lt_of_lt_of_le (by have := World.block_lt_of_cell? _ _ hx260_0; first | rwa [add_block] at this | exact this) GW259.out); replace hx260_0 := hL HB hx260_0; replace hx260_1 := hL HB hx260_1; have HR260_1 := Aside0.mk hi260_1; have HC260_1 := Aside0.mk hl260_1; clear hi260_1 hl260_1; replace hx260_0 := (cell_far (p := ⟨gb259, 0, none⟩) (by first | (rw [add_block]; exact hn260_0) | (show (Addr.add _ _).block ≠ _; rw [add_block]; exact hn260_0) | exact hn260_0) (.int .i64 ((rd_T46 l0 x17_1).f0))).trans hx260_0; replace hx260_1 := (cell_far (p := ⟨gb259, 0, none⟩) (by first | (rw [add_block]; exact hn260_0) | (show (Addr.add _ _).block ≠ _; rw [add_block]; exact hn260_0) | exact hn260_0) (.int .i64 ((rd_T46 l0 x17_1).f0))).trans hx260_1; replace hx260_0 := (cell_far (p := ⟨gb259, 1, none⟩) (by first | (rw [add_block]; exact hn260_1) | (show (Addr.add _ _).block ≠ _; rw [add_block]; exact hn260_1) | exact hn260_1) (.slice A258_1 ((rd_T46 l0 x17_1).f1).length c258_1)).trans hx260_0; replace hx260_1 := (cell_far (p := ⟨gb259, 1, none⟩) (by first | (rw [add_block]; exact hn260_1) | (show (Addr.add _ _).block ≠ _; rw [add_block]; exact hn260_1) | exact hn260_1) (.slice A258_1 ((rd_T46 l0 x17_1).f1).length c258_1)).trans hx260_1; clear hn260_0; clear hn260_1; replace p260 := eq_true p260; replace q260 := eq_true q260) | ((with_reducible refine gate_dst (N := 9) rfl ?_); refine box_event ?hg (N := 9) ?hd (cs := #[.int .i64 0, .slice none 0 0]) (t := 46) ?hr ?_; (case hd => rfl); (case hg => rfl); (case hr => first | (go_simp; done) | (go_simp; rfl)); intro gb261 hg w12 hbox hb; have BK261 := Aside0.mk (hbox); have GW261 := gS HB hg; have GE261 := gS HB hg; replace HB := bS HB hb; have NB259_261 := Aside0.mk ((by rw [hg]; exact Nat.ne_of_lt (blk_lt (g := gb259) (o := .cells #[.int .i64 ((rd_T46 l0 x17_1).f0), .slice A258_1 ((rd_T46 l0 x17_1).f1).length c258_1] 46 (0, 0)) (by (with_reducible repeat (first | refine blk_drewN ?_ _ | refine blk_drew ?_ | refine blk_alloc ?_ _)); refine blk_put (cs := #[.int .i64 ((rd_T46 l0 x17_1).f0), .slice none 0 0]) ?_ 1 _ rfl; (with_reducible repeat (first | refine blk_drewN ?_ _ | refine blk_drew ?_ | refine blk_alloc ?_ _)); refine blk_put (cs := #[.int .i64 0, .slice none 0 0]) ?_ 0 _ rfl; (with_reducible repeat (first | refine blk_drewN ?_ _ | refine blk_drew ?_ | refine blk_alloc ?_ _)); exact BK259.out)) : gb259 ≠ gb261)); have NB261_259 := Aside0.mk ((by rw [hg]; exact Nat.ne_of_gt (blk_lt (g := gb259) (o := .cells #[.int .i64 ((rd_T46 l0 x17_1).f0), .slice A258_1 ((rd_T46 l0 x17_1).f1).length c258_1] 46 (0, 0)) (by (with_reducible repeat (first | refine blk_drewN ?_ _ | refine blk_drew ?_ | refine blk_alloc ?_ _)); refine blk_put (cs := #[.int .i64 ((rd_T46 l0 x17_1).f0), .slice none 0 0]) ?_ 1 _ rfl; (with_reducible repeat (first | refine blk_drewN ?_ _ | refine blk_drew ?_ | refine blk_alloc ?_ _)); refine blk_put (cs := #[.int .i64 0, .slice none 0 0]) ?_ 0 _ rfl; (with_reducible repeat (first | refine blk_drewN ?_ _ | refine blk_drew ?_ | refine blk_alloc ?_ _)); exact BK259.out)) : gb261 ≠ gb259)); replace BK259 := Aside0.mk (blk_below (g := gb259) (o := .cells #[.int .i64 ((rd_T46 l0 x17_1).f0), .slice A258_1 ((rd_T46 l0 x17_1).f1).length c258_1] 46 (0, 0)) (by (with_reducible repeat (first | refine blk_drewN ?_ _ | refine blk_drew ?_ | refine blk_alloc ?_ _)); refine blk_put (cs := #[.int .i64 ((rd_T46 l0 x17_1).f0), .slice none 0 0]) ?_ 1 _ rfl; (with_reducible repeat (first | refine blk_drewN ?_ _ | refine blk_drew ?_ | refine blk_alloc ?_ _)); refine blk_put (cs := #[.int .i64 0, .slice none 0 0]) ?_ 0 _ rfl; (with_reducible repeat (first | refine blk_drewN ?_ _ | refine blk_drew ?_ | refine blk_alloc ?_ _)); exact BK259.out) hb); clear hb hbox hg; have hnb13 := NB261_259.out; have hnc13 := NB259_261.out; have hcz14_0 := bc0 BK261; have hcz14_1 := bc1 BK261; have hfz14_0 := bf BK261 0; have hfz14_1 := bf BK261 1; have hcz15_0 := bc0 BK259; have hcz15_1 := bc1 BK259; have hfz15_0 := bf BK259 0; have hfz15_1 := bf BK259 1) | ((with_reducible refine gate_dst (N := 29) rfl ?_); refine goesV_ (some 29) rfl rfl HF_.out HN_.out HBO_.out #[.agg #[.int .i64 ((rd_T46 l0 x17_1).f0), .slice A258_1 ((rd_T46 l0 x17_1).f1).length c258_1], .agg #[.int .i64 ((rd_T46 l1 x17_1).f0), .slice A260_1 ((rd_T46 l1 x17_1).f1).length c260_1]] rfl rfl zG ?_; (with_reducible refine (HKEEP_.out k1 ((rd_T46 l0 x17_1).f0) _ _ ((rd_T46 l0 x17_1).f1) ((rd_T46 l1 x17_1).f0) _ _ ((rd_T46 l1 x17_1).f1) true _ ?sideK_ ?side1 ?side2 ?side3 ?side4 A8.out).mono ?_); (case sideK_ => repeat (first | (with_reducible first | exact HB.out | apply below_alloc | apply pw_below_drewN | apply below_drew1 | (refine below_set ?_ GE259.out) | (refine below_set ?_ GE261.out)) | exact HB.out)); (case side1 => exact Kd.C_below HR258_1.out (zB HB)); (case side2 => exact HC258_1.out); (case side3 => exact Kd.C_below HR260_1.out (zB HB)); (case side4 => exact HC260_1.out); rintro e w16 ⟨rfl, hb⟩; refine ⟨_, rfl, ?_⟩; replace BK259 := Aside0.mk (blk_below (g := gb259) (o := .cells #[.int .i64 ((rd_T46 l0 x17_1).f0), .slice A258_1 ((rd_T46 l0 x17_1).f1).length c258_1] 46 (0, 0)) (by (with_reducible repeat (first | refine blk_drewN ?_ _ | refine blk_drew ?_ | refine blk_alloc ?_ _)); refine blk_far ?_ NB259_261.out _; (with_reducible repeat (first | refine blk_drewN ?_ _ | refine blk_drew ?_ | refine blk_alloc ?_ _)); refine blk_far ?_ NB259_261.out _; (with_reducible repeat (first | refine blk_drewN ?_ _ | refine blk_drew ?_ | refine blk_alloc ?_ _)); exact BK259.out) hb); replace BK261 := Aside0.mk (blk_below (g := gb261) (o := .cells #[.int .i64 ((rd_T46 l1 x17_1).f0), .slice A260_1 ((rd_T46 l1 x17_1).f1).length c260_1] 46 (0, 0)) (by (with_reducible repeat (first | refine blk_drewN ?_ _ | refine blk_drew ?_ | refine blk_alloc ?_ _)); refine blk_put (cs := #[.int .i64 ((rd_T46 l1 x17_1).f0), .slice none 0 0]) ?_ 1 _ rfl; (with_reducible repeat (first | refine blk_drewN ?_ _ | refine blk_drew ?_ | refine blk_alloc ?_ _)); refine blk_put (cs := #[.int .i64 0, .slice none 0 0]) ?_ 0 _ rfl; (with_reducible repeat (first | refine blk_drewN ?_ _ | refine blk_drew ?_ | refine blk_alloc ?_ _)); exact BK261.out) hb); replace HB := bS HB hb; (try clear hb)))
      go_roundg k1
      case measure => have := HK1.out; omega
      case rel => exact ⟨(wrap64 (x17_1 + 1)), zF, H', ⟨by have := HK1.out; omega⟩, ⟨zB HB⟩⟩
     ·replace c9 := Bool.eq_false_iff.mpr c9
      subst c9
      have H1 : (some false) = some r := by rw [if_neg (show ¬ (false = true) by decide)] at H; exact H
      clear H
      have H := H1
      clear H1
      obtain rfl := Option.some.inj H
      have p258 : 0 ≤ (x17_1 : Int) := zD
      have q258 : x17_1 < (l0.length : Int) := zD
      obtain ⟨ad258, A258_1, c258_1, e258, hx258_0, hx258_1, hl258_1, hi258_1⟩ := at_T46 HR0.out x17_1 p258 q258
      cases e258
      replace hx258_0 := hL HB hx258_0
      replace hx258_1 := hL HB hx258_1
      have HR258_1 := Aside0.mk hi258_1
      have HC258_1 := Aside0.mk hl258_1
      clear hi258_1 hl258_1
      replace p258 := eq_true p258
      replace q258 := eq_true q258
      go_wp2_with (first | ((with_reducible refine gate_dst (N := 8) rfl ?_); refine box_event ?hg (N := 8) ?hd (cs := #[.int .i64 0, .slice none 0 0]) (t := 46) ?hr ?_; (case hd => rfl); (case hg => rfl); (case hr => first | (go_simp; done) | (go_simp; rfl)); intro gb259 hg w17 hbox hb; have BK259 := Aside0.mk (hbox); have GW259 := gS HB hg; have GE259 := gS HB hg; replace HB := bS HB hb; clear hb hbox hg; have hcz18_0 := bc0 BK259; have hcz18_1 := bc1 BK259; have hfz18_0 := bf BK259 0; have hfz18_1 := bf BK259 1; have p260 : 0 ≤ (x17_1 : Int) := zD; have q260 : x17_1 < (l1.length : Int) := zD; obtain ⟨ad260, A260_1, c260_1, e260, hx260_0, hx260_1, hl260_1, hi260_1⟩ := at_T46 HR1.out x17_1 p260 q260; cases e260; have hn260_0 : ad260.block ≠ gb259 := Nat.ne_of_lt (Nat.lt_of_lt_of_le (by have := World.block_lt_of_cell? _ _ hx260_0; first | rwa [add_block] at this | exact this) GW259.out); have hn260_1 : ad260.block ≠ gb259 := Nat.ne_of_lt (Nat.lt_of_lt_of_le (by have := World.block_lt_of_cell? _ _ hx260_0; first | rwa [add_block] at this | exact this) GW259.out); replace hx260_0 := hL HB hx260_0; replace hx260_1 := hL HB hx260_1; have HR260_1 := Aside0.mk hi260_1; have HC260_1 := Aside0.mk hl260_1; clear hi260_1 hl260_1; replace hx260_0 := (cell_far (p := ⟨gb259, 0, none⟩) (by first | (rw [add_block]; exact hn260_0) | (show (Addr.add _ _).block ≠ _; rw [add_block]; exact hn260_0) | exact hn260_0) (.int .i64 ((rd_T46 l0 x17_1).f0))).trans hx260_0; replace hx260_1 := (cell_far (p := ⟨gb259, 0, none⟩) (by first | (rw [add_block]; exact hn260_0) | (show (Addr.add _ _).block ≠ _; rw [add_block]; exact hn260_0) | exact hn260_0) (.int .i64 ((rd_T46 l0 x17_1).f0))).trans hx260_1; replace hx260_0 := (cell_far (p := ⟨gb259, 1, none⟩) (by first | (rw [add_block]; exact hn260_1) | (show (Addr.add _ _).block ≠ _; rw [add_block]; exact hn260_1) | exact hn260_1) (.slice A258_1 ((rd_T46 l0 x17_1).f1).length c258_1)).trans hx260_0; replace hx260_1 := (cell_far (p := ⟨gb259, 1, none⟩) (by first | (rw [add_block]; exact hn260_1) | (show (Addr.add _ _).block ≠ _; rw [add_block]; exact hn260_1) | exact hn260_1) (.slice A258_1 ((rd_T46 l0 x17_1).f1).length c258_1)).trans hx260_1; clear hn260_0; clear hn260_1; replace p260 := eq_true p260; replace q260 := eq_true q260) | ((with_reducible refine gate_dst (N := 9) rfl ?_); refine box_event ?hg (N := 9) ?hd (cs := #[.int .i64 0, .slice none 0 0]) (t := 46) ?hr ?_; (case hd => rfl); (case hg => rfl); (case hr => first | (go_simp; done) | (go_simp; rfl)); intro gb261 hg w19 hbox hb; have BK261 := Aside0.mk (hbox); have GW261 := gS HB hg; have GE261 := gS HB hg; replace HB := bS HB hb; have NB259_261 := Aside0.mk ((by rw [hg]; exact Nat.ne_of_lt (blk_lt (g := gb259) (o := .cells #[.int .i64 ((rd_T46 l0 x17_1).f0), .slice A258_1 ((rd_T46 l0 x17_1).f1).length c258_1] 46 (0, 0)) (by (with_reducible repeat (first | refine blk_drewN ?_ _ | refine blk_drew ?_ | refine blk_alloc ?_ _)); refine blk_put (cs := #[.int .i64 ((rd_T46 l0 x17_1).f0), .slice none 0 0]) ?_ 1 _ rfl; (with_reducible repeat (first | refine blk_drewN ?_ _ | refine blk_drew ?_ | refine blk_alloc ?_ _)); refine blk_put (cs := #[.int .i64 0, .slice none 0 0]) ?_ 0 _ rfl; (with_reducible repeat (first | refine blk_drewN ?_ _ | refine blk_drew ?_ | refine blk_alloc ?_ _)); exact BK259.out)) : gb259 ≠ gb261)); have NB261_259 := Aside0.mk ((by rw [hg]; exact Nat.ne_of_gt (blk_lt (g := gb259) (o := .cells #[.int .i64 ((rd_T46 l0 x17_1).f0), .slice A258_1 ((rd_T46 l0 x17_1).f1).length c258_1] 46 (0, 0)) (by (with_reducible repeat (first | refine blk_drewN ?_ _ | refine blk_drew ?_ | refine blk_alloc ?_ _)); refine blk_put (cs := #[.int .i64 ((rd_T46 l0 x17_1).f0), .slice none 0 0]) ?_ 1 _ rfl; (with_reducible repeat (first | refine blk_drewN ?_ _ | refine blk_drew ?_ | refine blk_alloc ?_ _)); refine blk_put (cs := #[.int .i64 0, .slice none 0 0]) ?_ 0 _ rfl; (with_reducible repeat (first | refine blk_drewN ?_ _ | refine blk_drew ?_ | refine blk_alloc ?_ _)); exact BK259.out)) : gb261 ≠ gb259)); replace BK259 := Aside0.mk (blk_below (g := gb259) (o := .cells #[.int .i64 ((rd_T46 l0 x17_1).f0), .slice A258_1 ((rd_T46 l0 x17_1).f1).length c258_1] 46 (0, 0)) (by (with_reducible repeat (first | refine blk_drewN ?_ _ | refine blk_drew ?_ | refine blk_alloc ?_ _)); refine blk_put (cs := #[.int .i64 ((rd_T46 l0 x17_1).f0), .slice none 0 0]) ?_ 1 _ rfl; (with_reducible repeat (first | refine blk_drewN ?_ _ | refine blk_drew ?_ | refine blk_alloc ?_ _)); refine blk_put (cs := #[.int .i64 0, .slice none 0 0]) ?_ 0 _ rfl; (with_reducible repeat (first | refine blk_drewN ?_ _ | refine blk_drew ?_ | refine blk_alloc ?_ _)); exact BK259.out) hb); clear hb hbox hg; have hnb20 := NB261_259.out; have hnc20 := NB259_261.out; have hcz21_0 := bc0 BK261; have hcz21_1 := bc1 BK261; have hfz21_0 := bf BK261 0; have hfz21_1 := bf BK261 1; have hcz22_0 := bc0 BK259; have hcz22_1 := bc1 BK259; have hfz22_0 := bf BK259 0; have hfz22_1 := bf BK259 1) | ((with_reducible refine gate_dst (N := 29) rfl ?_); refine goesV_ (some 29) rfl rfl HF_.out HN_.out HBO_.out #[.agg #[.int .i64 ((rd_T46 l0 x17_1).f0), .slice A258_1 ((rd_T46 l0 x17_1).f1).length c258_1], .agg #[.int .i64 ((rd_T46 l1 x17_1).f0), .slice A260_1 ((rd_T46 l1 x17_1).f1).length c260_1]] rfl rfl zG ?_; (with_reducible refine (HKEEP_.out k1 ((rd_T46 l0 x17_1).f0) _ _ ((rd_T46 l0 x17_1).f1) ((rd_T46 l1 x17_1).f0) _ _ ((rd_T46 l1 x17_1).f1) false _ ?sideK_ ?side1 ?side2 ?side3 ?side4 A8.out).mono ?_); (case sideK_ => repeat (first | (with_reducible first | exact HB.out | apply below_alloc | apply pw_below_drewN | apply below_drew1 | (refine below_set ?_ GE259.out) | (refine below_set ?_ GE261.out)) | exact HB.out)); (case side1 => exact Kd.C_below HR258_1.out (zB HB)); (case side2 => exact HC258_1.out); (case side3 => exact Kd.C_below HR260_1.out (zB HB)); (case side4 => exact HC260_1.out); rintro e w23 ⟨rfl, hb⟩; refine ⟨_, rfl, ?_⟩; replace BK259 := Aside0.mk (blk_below (g := gb259) (o := .cells #[.int .i64 ((rd_T46 l0 x17_1).f0), .slice A258_1 ((rd_T46 l0 x17_1).f1).length c258_1] 46 (0, 0)) (by (with_reducible repeat (first | refine blk_drewN ?_ _ | refine blk_drew ?_ | refine blk_alloc ?_ _)); refine blk_far ?_ NB259_261.out _; (with_reducible repeat (first | refine blk_drewN ?_ _ | refine blk_drew ?_ | refine blk_alloc ?_ _)); refine blk_far ?_ NB259_261.out _; (with_reducible repeat (first | refine blk_drewN ?_ _ | refine blk_drew ?_ | refine blk_alloc ?_ _)); exact BK259.out) hb); replace BK261 := Aside0.mk (blk_below (g := gb261) (o := .cells #[.int .i64 ((rd_T46 l1 x17_1).f0), .slice A260_1 ((rd_T46 l1 x17_1).f1).length c260_1] 46 (0, 0)) (by (with_reducible repeat (first | refine blk_drewN ?_ _ | refine blk_drew ?_ | refine blk_alloc ?_ _)); refine blk_put (cs := #[.int .i64 ((rd_T46 l1 x17_1).f0), .slice none 0 0]) ?_ 1 _ rfl; (with_reducible repeat (first | refine blk_drewN ?_ _ | refine blk_drew ?_ | refine blk_alloc ?_ _)); refine blk_put (cs := #[.int .i64 0, .slice none 0 0]) ?_ 0 _ rfl; (with_reducible repeat (first | refine blk_drewN ?_ _ | refine blk_drew ?_ | refine blk_alloc ?_ _)); exact BK261.out) hb); replace HB := bS HB hb; (try clear hb)))
      go_ret
      exact ⟨zE, zB HB⟩
    ·rw [if_neg c4] at H
     have c4b0 : decide (x17_1 < (l0.length : Int)) = false := decide_eq_false c4
     clear c4
     obtain rfl := Option.some.inj H
     go_wp2
     go_ret
     exact ⟨zE, zB HB⟩
 ·rw [if_neg c3] at H
  have c3b0 : ((l0.length : Int) == (l1.length : Int)) = false := beq_eq_false_iff_ne.mpr c3
  have c3b1 : ((l0.length : Int) != (l1.length : Int)) = true := bne_iff_ne.mpr c3
  have c3b2 : (l0.length == l1.length) = false := by first | simpa using c3 | (simp at c3 ⊢; omega)
  obtain rfl := Option.some.inj H
  go_enter Try.func45, Try.ntmps45
  go_wp2
  go_ret
  exact ⟨zE, zB HB⟩

end

/-! ### slices_Equal_int_int: function 74 -/
def slices_Equal_int_int.l0 : Nat → List Int → List Int → Int → Int → Option (Bool)
 | 0, _, _, _, _ => none
 | k + 1, x0, x1, x12, x13 => if x13 < x12 then (if 0 ≤ x13 then (if x13 < (x0.length : Int) then (if x13 < (x1.length : Int) then (if (rd x0 x13) = (rd x1 x13) then (slices_Equal_int_int.l0 k x0 x1 x12 (wrap64 (x13 + 1))) else (some false)) else (none)) else (none)) else (none)) else (some true)
def slices_Equal_int_int.f (k : Nat) (l0 : List Int) (l1 : List Int) : Option (Bool) := if (l0.length : Int) = (l1.length : Int) then (slices_Equal_int_int.l0 k l0 l1 (l0.length : Int) 0) else (some false)
theorem slices_Equal_int_int.mono_l : ∀ k, (∀ y0 y1 y2 y3, LeO (slices_Equal_int_int.l0 k y0 y1 y2 y3) (slices_Equal_int_int.l0 (k + 1) y0 y1 y2 y3))
 | 0 => fun _ _ _ _ r h => by simp [slices_Equal_int_int.l0] at h
 | k + 1 => by
  have ih0 := slices_Equal_int_int.mono_l k
  ·intro y0 y1 y2 y3
   unfold slices_Equal_int_int.l0
   repeat' first
   | (with_reducible exact ih0 _ _ _ _)
   | (with_reducible exact LeO.refl _)
   | (with_reducible exact LeO.none _)
   | (with_reducible refine LeO.ite ?_ ?_)
   | (with_reducible refine LeO.bind ?_ (fun _ => ?_))
   | exact ih0 _ _ _ _
   | exact LeO.none _
   | refine LeO.ite ?_ ?_
   | refine LeO.bind ?_ (fun _ => ?_)
theorem slices_Equal_int_int.mono : ∀ a0 a1 k, LeO (slices_Equal_int_int.f k a0 a1) (slices_Equal_int_int.f (k + 1) a0 a1) := by
 intro a0 a1 k
 have ih0 := slices_Equal_int_int.mono_l k
 unfold slices_Equal_int_int.f
 repeat' first
   | (with_reducible exact ih0 _ _ _ _)
   | (with_reducible exact LeO.refl _)
   | (with_reducible exact LeO.none _)
   | (with_reducible refine LeO.ite ?_ ?_)
   | (with_reducible refine LeO.bind ?_ (fun _ => ?_))
   | exact ih0 _ _ _ _
   | exact LeO.none _
   | refine LeO.ite ?_ ?_
   | refine LeO.bind ?_ (fun _ => ?_)
set_option maxHeartbeats 8000000 in
set_option maxRecDepth 100000 in
theorem slices_Equal_int_int.calls (k : Nat) (A0 : Option Addr) (c0 : Nat) (l0 : List Int) (A1 : Option Addr) (c1 : Nat) (l1 : List Int) (r : Bool) (w : World) (hr0 : Kd.C (Kd.int .i64) w A0 l0.length l0) (hc0 : l0.length ≤ c0) (hr1 : Kd.C (Kd.int .i64) w A1 l1.length l1) (hc1 : l1.length ≤ c1) (h : slices_Equal_int_int.f k l0 l1 = some r) :
  Calls Try.prog 74 #[.slice A0 l0.length c0, .slice A1 l1.length c1] w fun e w' => e = .returned (.bool r) ∧ Drawn0 w w' := by
 have HR0 := Aside0.mk hr0
 have HC0 := Aside0.mk hc0
 clear hr0 hc0
 have HR1 := Aside0.mk hr1
 have HC1 := Aside0.mk hc1
 clear hr1 hc1
 have H : (if (l0.length : Int) = (l1.length : Int) then (slices_Equal_int_int.l0 k l0 l1 (l0.length : Int) 0) else (some false)) = some r := h
 clear h
 by_cases c3 : (l0.length : Int) = (l1.length : Int)
 ·rw [if_pos c3] at H
  have c3b0 : ((l0.length : Int) == (l1.length : Int)) = true := beq_iff_eq.mpr c3
  have c3b1 : ((l0.length : Int) != (l1.length : Int)) = false := bne_eq_false_iff_eq.mpr c3
  have c3b2 : (l0.length == l1.length) = true := by first | simpa using c3 | (simp at c3 ⊢; omega)
  clear c3
  have H' := Aside0.mk H
  clear H
  go_enter Try.func74, Try.ntmps74
  go_wp2
  repeat (go_quiet (fail); try go_wp2)
  go_loopg [13] k (fun kq v13 w' => ∃ (x13_1 : Int), v13 = .int .i64 x13_1 ∧ Aside0 (slices_Equal_int_int.l0 kq l0 l1 (l0.length : Int) x13_1 = some r) ∧ Aside0 (kq ≤ k) ∧ Drawn0 w w')
  case atStart => exact ⟨(0), zF, H', ⟨Nat.le_refl _⟩, by repeat (first | exact Drawn0.refl _ | apply Drawn0.step)⟩
  case round =>
   clear H'
   try clear c1
   try clear p2
   try clear c3
   try clear c3b0
   try clear c3b1
   try clear c3b2
   obtain ⟨x13_1, rfl, HA, HK1, ⟨m1, rfl⟩⟩ := hrel
   cases gk with
   | zero => exact absurd HA.out (by simp [slices_Equal_int_int.l0])
   | succ k1 =>
    have H := HA.out
    clear HA
    simp only [slices_Equal_int_int.l0] at H
    by_cases c4 : x13_1 < (l0.length : Int)
    ·rw [if_pos c4] at H
     have c4b0 : decide (x13_1 < (l0.length : Int)) = true := decide_eq_true c4
     clear c4
     obtain ⟨c5, H⟩ := ifS H
     have c5b0 : decide (0 ≤ x13_1) = true := decide_eq_true c5
     clear c5
     obtain ⟨c6, H⟩ := ifS H
     have c6b0 : decide (x13_1 < (l0.length : Int)) = true := decide_eq_true c6
     clear c6
     obtain ⟨c7, H⟩ := ifS H
     have c7b0 : decide (x13_1 < (l1.length : Int)) = true := decide_eq_true c7
     clear c7
     by_cases c8 : (rd l0 x13_1) = (rd l1 x13_1)
     ·rw [if_pos c8] at H
      have c8b0 : ((rd l0 x13_1) == (rd l1 x13_1)) = true := beq_iff_eq.mpr c8
      have c8b1 : ((rd l0 x13_1) != (rd l1 x13_1)) = false := bne_eq_false_iff_eq.mpr c8
      clear c8
      have H' := Aside0.mk H
      clear H
      have p263 : 0 ≤ (x13_1 : Int) := zD
      have q263 : x13_1 < (l0.length : Int) := zD
      obtain ⟨ad263, e263, hx263_0⟩ := Kd.at_int HR0.out x13_1 p263 q263
      cases e263
      replace p263 := eq_true p263
      replace q263 := eq_true q263
      have p264 : 0 ≤ (x13_1 : Int) := zD
      have q264 : x13_1 < (l1.length : Int) := zD
      obtain ⟨ad264, e264, hx264_0⟩ := Kd.at_int HR1.out x13_1 p264 q264
      cases e264
      replace p264 := eq_true p264
      replace q264 := eq_true q264
      go_wp2
      repeat (go_quiet (fail); try go_wp2)
      go_roundg k1
      case measure => have := HK1.out; omega
      case rel => exact ⟨(wrap64 (x13_1 + 1)), zF, H', ⟨by have := HK1.out; omega⟩, by repeat (first | exact Drawn0.refl _ | apply Drawn0.step)⟩
     ·rw [if_neg c8] at H
      have c8b0 : ((rd l0 x13_1) == (rd l1 x13_1)) = false := beq_eq_false_iff_ne.mpr c8
      have c8b1 : ((rd l0 x13_1) != (rd l1 x13_1)) = true := bne_iff_ne.mpr c8
      obtain rfl := Option.some.inj H
      have p263 : 0 ≤ (x13_1 : Int) := zD
      have q263 : x13_1 < (l0.length : Int) := zD
      obtain ⟨ad263, e263, hx263_0⟩ := Kd.at_int HR0.out x13_1 p263 q263
      cases e263
      replace p263 := eq_true p263
      replace q263 := eq_true q263
      have p264 : 0 ≤ (x13_1 : Int) := zD
      have q264 : x13_1 < (l1.length : Int) := zD
      obtain ⟨ad264, e264, hx264_0⟩ := Kd.at_int HR1.out x13_1 p264 q264
      cases e264
      replace p264 := eq_true p264
      replace q264 := eq_true q264
      go_wp2
      repeat (go_quiet (fail); try go_wp2)
      go_ret
      exact ⟨by first | rfl | (simp; done) | (simp [*]; done), by repeat (first | exact Drawn0.refl _ | apply Drawn0.step)⟩
    ·rw [if_neg c4] at H
     have c4b0 : decide (x13_1 < (l0.length : Int)) = false := decide_eq_false c4
     clear c4
     obtain rfl := Option.some.inj H
     go_wp2
     repeat (go_quiet (fail); try go_wp2)
     go_ret
     exact ⟨by first | rfl | (simp; done) | (simp [*]; done), by repeat (first | exact Drawn0.refl _ | apply Drawn0.step)⟩
 ·rw [if_neg c3] at H
  have c3b0 : ((l0.length : Int) == (l1.length : Int)) = false := beq_eq_false_iff_ne.mpr c3
  have c3b1 : ((l0.length : Int) != (l1.length : Int)) = true := bne_iff_ne.mpr c3
  have c3b2 : (l0.length == l1.length) = false := by first | simpa using c3 | (simp at c3 ⊢; omega)
  obtain rfl := Option.some.inj H
  go_enter Try.func74, Try.ntmps74
  go_wp2
  repeat (go_quiet (fail); try go_wp2)
  go_ret
  exact ⟨by first | rfl | (simp; done) | (simp [*]; done), by repeat (first | exact Drawn0.refl _ | apply Drawn0.step)⟩

/-! ### impl_equalExt: function 46 -/
def impl_equalExt.f (k : Nat) (a0_0 : Int) (l0_1 : List Int) (a1_0 : Int) (l1_1 : List Int) : Option (Bool) := if a0_0 = a1_0 then ((slices_Equal_int_int.f k l0_1 l1_1).bind fun t267 => (some t267)) else (some false)
theorem impl_equalExt.mono : ∀ a0 a1 a2 a3 k, LeO (impl_equalExt.f k a0 a1 a2 a3) (impl_equalExt.f (k + 1) a0 a1 a2 a3) := by
 intro a0 a1 a2 a3 k
 unfold impl_equalExt.f
 repeat' first
   | (with_reducible exact slices_Equal_int_int.mono _ _ _)
   | (with_reducible exact LeO.refl _)
   | (with_reducible exact LeO.none _)
   | (with_reducible refine LeO.ite ?_ ?_)
   | (with_reducible refine LeO.bind ?_ (fun _ => ?_))
   | exact slices_Equal_int_int.mono _ _ _
   | exact LeO.none _
   | refine LeO.ite ?_ ?_
   | refine LeO.bind ?_ (fun _ => ?_)
set_option maxHeartbeats 8000000 in
set_option maxRecDepth 100000 in
theorem impl_equalExt.calls (k : Nat) (a0_0 : Int) (A0_1 : Option Addr) (c0_1 : Nat) (l0_1 : List Int) (a1_0 : Int) (A1_1 : Option Addr) (c1_1 : Nat) (l1_1 : List Int) (r : Bool) (w : World) (hr0_1 : Kd.C (Kd.int .i64) w A0_1 l0_1.length l0_1) (hc0_1 : l0_1.length ≤ c0_1) (hr1_1 : Kd.C (Kd.int .i64) w A1_1 l1_1.length l1_1) (hc1_1 : l1_1.length ≤ c1_1) (h : impl_equalExt.f k a0_0 l0_1 a1_0 l1_1 = some r) :
  Calls Try.prog 46 #[.agg #[.int .i64 a0_0, .slice A0_1 l0_1.length c0_1], .agg #[.int .i64 a1_0, .slice A1_1 l1_1.length c1_1]] w fun e w' => e = .returned (.bool r) ∧ Below w.heap.size w w' := by
 have hu46 := Try.underlying46
 have HR0_1 := Aside0.mk hr0_1
 have HC0_1 := Aside0.mk hc0_1
 clear hr0_1 hc0_1
 have HR1_1 := Aside0.mk hr1_1
 have HC1_1 := Aside0.mk hc1_1
 clear hr1_1 hc1_1
 have HB := Aside0.mk (Below.refl w.heap.size w)
 have H : (if a0_0 = a1_0 then ((slices_Equal_int_int.f k l0_1 l1_1).bind fun t267 => (some t267)) else (some false)) = some r := h
 clear h
 by_cases c3 : a0_0 = a1_0
 ·rw [if_pos c3] at H
  have c3b0 : (a0_0 == a1_0) = true := beq_iff_eq.mpr c3
  have c3b1 : (a0_0 != a1_0) = false := bne_eq_false_iff_eq.mpr c3
  clear c3
  obtain ⟨t267, A4, H⟩ := bindS H
  obtain rfl := Option.some.inj H
  go_enter Try.func46, Try.ntmps46
  go_wp2_with (first | ((with_reducible refine gate_dst (N := 2) rfl ?_); refine box_event ?hg (N := 2) ?hd (cs := #[.int .i64 a0_0, .slice A0_1 l0_1.length c0_1]) (t := 46) ?hr ?_; (case hd => rfl); (case hg => rfl); (case hr => first | (go_simp; done) | (go_simp; rfl)); intro gb265 hg w5 hbox hb; have BK265 := Aside0.mk (hbox); have GW265 := gS HB hg; have GE265 := gS HB hg; replace HB := bS HB hb; clear hb hbox hg) | ((with_reducible refine gate_dst (N := 3) rfl ?_); refine box_event ?hg (N := 3) ?hd (cs := #[.int .i64 a1_0, .slice A1_1 l1_1.length c1_1]) (t := 46) ?hr ?_; (case hd => rfl); (case hg => rfl); (case hr => first | (go_simp; done) | (go_simp; rfl)); intro gb266 hg w6 hbox hb; have BK266 := Aside0.mk (hbox); have GW266 := gS HB hg; have GE266 := gS HB hg; replace HB := bS HB hb; have NB265_266 := nL BK265 hg; have NB266_265 := nR BK265 hg; replace BK265 := kB BK265 hb; clear hb hbox hg; have hnb7 := NB265_266.out; have hnc7 := NB266_265.out; have hcz8_0 := bc0 BK265; have hcz8_1 := bc1 BK265; have hfz8_0 := bf BK265 0; have hfz8_1 := bf BK265 1; have hcz9_0 := bc0 BK266; have hcz9_1 := bc1 BK266; have hfz9_0 := bf BK266 0; have hfz9_1 := bf BK266 1) | (go_at_call 74; (with_reducible refine (slices_Equal_int_int.calls k _ _ l0_1 _ _ l1_1 t267 _ ?side1 ?side2 ?side3 ?side4 A4.out).mono ?_); (case side1 => exact cS HR0_1 HB); (case side2 => exact HC0_1.out); (case side3 => exact cS HR1_1 HB); (case side4 => exact HC1_1.out); rintro e w' ⟨rfl, ⟨nd, rfl⟩⟩))
  go_ret
  exact ⟨zE, zB HB⟩
 ·rw [if_neg c3] at H
  have c3b0 : (a0_0 == a1_0) = false := beq_eq_false_iff_ne.mpr c3
  have c3b1 : (a0_0 != a1_0) = true := bne_iff_ne.mpr c3
  obtain rfl := Option.some.inj H
  go_enter Try.func46, Try.ntmps46
  go_wp2_with (first | ((with_reducible refine gate_dst (N := 2) rfl ?_); refine box_event ?hg (N := 2) ?hd (cs := #[.int .i64 a0_0, .slice A0_1 l0_1.length c0_1]) (t := 46) ?hr ?_; (case hd => rfl); (case hg => rfl); (case hr => first | (go_simp; done) | (go_simp; rfl)); intro gb265 hg w10 hbox hb; have BK265 := Aside0.mk (hbox); have GW265 := gS HB hg; have GE265 := gS HB hg; replace HB := bS HB hb; clear hb hbox hg) | ((with_reducible refine gate_dst (N := 3) rfl ?_); refine box_event ?hg (N := 3) ?hd (cs := #[.int .i64 a1_0, .slice A1_1 l1_1.length c1_1]) (t := 46) ?hr ?_; (case hd => rfl); (case hg => rfl); (case hr => first | (go_simp; done) | (go_simp; rfl)); intro gb266 hg w11 hbox hb; have BK266 := Aside0.mk (hbox); have GW266 := gS HB hg; have GE266 := gS HB hg; replace HB := bS HB hb; have NB265_266 := nL BK265 hg; have NB266_265 := nR BK265 hg; replace BK265 := kB BK265 hb; clear hb hbox hg; have hnb12 := NB265_266.out; have hnc12 := NB266_265.out; have hcz13_0 := bc0 BK265; have hcz13_1 := bc1 BK265; have hfz13_0 := bf BK265 0; have hfz13_1 := bf BK265 1; have hcz14_0 := bc0 BK266; have hcz14_1 := bc1 BK266; have hfz14_0 := bf BK266 0; have hfz14_1 := bf BK266 1))
  go_ret
  exact ⟨zE, zB HB⟩

end Go.Proofs.Ytbahcefcoplmpaa.PFnGrease
