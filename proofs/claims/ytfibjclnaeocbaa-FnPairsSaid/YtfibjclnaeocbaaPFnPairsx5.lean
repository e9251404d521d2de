-- WRITTEN by pp.py, this session's own wrapper around the print; not trusted: Lean checks it
import Derived.Test.YtfibjclnaeocbaaPFnPairsx0
import Derived.Test.YtfibjclnaeocbaaPFnPairsx1
import Derived.Test.YtfibjclnaeocbaaPFnPairsx2
import Derived.Test.YtfibjclnaeocbaaPFnPairsx4
namespace Go.Proofs.Ytfibjclnaeocbaa.PFnPairs
open Go.RowKit Go.Proofs.Ytfibjclnaeocbaa.Hw Go.Proofs.YtfibjclnaeocbaaW.PrintWords Go.Proofs.YtfibjclnaeocbaaW.PrintLast Go.Proofs.YtfibjclnaeocbaaW.PrintMore
attribute [local go_sem] max2_int min2_int max_two min_two max_three min_three max_four min_four   -- for this text's walks alone
set_option linter.unusedVariables false
set_option linter.unusedSimpArgs false
set_option linter.unusedSectionVars false

/-! ### spec_l13Any: function 55 -/
def spec_l13Any.f (k : Nat) (s0_0 : List Int) (s0_1 : Int) (s0_2 : Int) : Option (Int × List Bool × (List (S46)) × Int × Int) := (spec_l13Draw.f k s0_0 s0_1 s0_2).bind fun bt235 => (if (bt235.2.2.1.length : Int) = 0 then (some (bt235.1, bt235.2.1, bt235.2.2.1, bt235.2.2.2.1, bt235.2.2.2.2)) else ((spec_l1Below.f s0_0 bt235.2.2.2.1 bt235.2.2.2.2 (bt235.2.2.1.length : Int)).bind fun bt245 => ((spec_l1Below.f s0_0 bt245.2.1 bt245.2.2 12).bind fun bt248 => (if bt248.1 = 0 then ((spec_l1Int.f s0_0 bt248.2.1 bt248.2.2 (([(-1), bt235.1, 9223372036854775807] : List Int))).bind fun bt254 => (if 0 ≤ bt245.1 then (if bt245.1 < (bt235.2.2.1.length : Int) then (some (bt235.1, bt235.2.1, (bt235.2.2.1.set (bt245.1 : Int).toNat (⟨(rd_T46 bt235.2.2.1 bt245.1).f0, (rd_T46 bt235.2.2.1 bt245.1).f1, (rd_T46 bt235.2.2.1 bt245.1).f2, bt254.1⟩ : S46)), bt254.2.1, bt254.2.2)) else (none)) else (none))) else (if bt248.1 = 1 then ((spec_l1Int.f s0_0 bt248.2.1 bt248.2.2 (([(-1), 5, 6] : List Int))).bind fun bt261 => (if 0 ≤ bt245.1 then (if bt245.1 < (bt235.2.2.1.length : Int) then (some (bt235.1, bt235.2.1, (bt235.2.2.1.set (bt245.1 : Int).toNat (⟨(rd_T46 bt235.2.2.1 bt245.1).f0, (rd_T46 bt235.2.2.1 bt245.1).f1, bt261.1, (rd_T46 bt235.2.2.1 bt245.1).f3⟩ : S46)), bt261.2.1, bt261.2.2)) else (none)) else (none))) else (if bt248.1 = 2 then (if 0 ≤ bt245.1 then (if bt245.1 < (bt235.2.2.1.length : Int) then (if bt235.2.2.1.length < 4398046511104 then (some (bt235.1, bt235.2.1, (bt235.2.2.1 ++ [(⟨(rd_T46 bt235.2.2.1 bt245.1).f0, (rd_T46 bt235.2.2.1 bt245.1).f1, (rd_T46 bt235.2.2.1 bt245.1).f2, (rd_T46 bt235.2.2.1 bt245.1).f3⟩ : S46)]), bt248.2.1, bt248.2.2)) else (none)) else (none)) else (none)) else (if bt248.1 = 3 then (if 0 ≤ bt245.1 then (if bt245.1 < (bt235.2.2.1.length : Int) then (if bt235.2.2.1.length < 4398046511104 then (some (bt235.1, bt235.2.1, (bt235.2.2.1 ++ [(⟨(rd_T46 bt235.2.2.1 bt245.1).f0, !((rd_T46 bt235.2.2.1 bt245.1).f1), (rd_T46 bt235.2.2.1 bt245.1).f2, (rd_T46 bt235.2.2.1 bt245.1).f3⟩ : S46)]), bt248.2.1, bt248.2.2)) else (none)) else (none)) else (none)) else (if bt248.1 = 4 then ((spec_l1Int.f s0_0 bt248.2.1 bt248.2.2 (([0, 6, 7] : List Int))).bind fun bt277 => (some (bt277.1, bt235.2.1, bt235.2.2.1, bt277.2.1, bt277.2.2))) else (if bt248.1 = 5 then (if bt235.2.1.length < 140737488355328 then (some (bt235.1, (bt235.2.1 ++ [true]), bt235.2.2.1, bt248.2.1, bt248.2.2)) else (none)) else (some (bt235.1, bt235.2.1, bt235.2.2.1, bt248.2.1, bt248.2.2)))))))))))
theorem spec_l13Any.mono : ∀ a0 a1 a2 k, LeO (spec_l13Any.f k a0 a1 a2) (spec_l13Any.f (k + 1) a0 a1 a2) := by
 intro a0 a1 a2 k
 unfold spec_l13Any.f
 repeat' first
   | (with_reducible first | exact spec_l13Draw.mono _ _ _ _ | exact LeO.refl _ | exact LeO.none _ | refine LeO.ite ?_ ?_ | refine LeO.bind ?_ (fun _ => ?_))
   | exact spec_l13Draw.mono _ _ _ _
   | exact LeO.none _
   | refine LeO.ite ?_ ?_
   | refine LeO.bind ?_ (fun _ => ?_)
def spec_l13Any.T7 : Bool × List (List Nat × List Nat) := (true, [([], []), ([0], [0]), ([], []), ([], []), ([], []), ([4], [4]), ([5], [5]), ([3, 6], [3, 6]), ([1, 2, 0, 1, 2, 3, 4, 5, 6, 7], [1, 2]), ([8, 0, 1, 2, 3, 4, 5, 6, 7], [8]), ([9, 7, 7, 0, 1, 2, 3, 4, 5, 6, 7], [7, 9])])
def spec_l13Any.B7 : List Nat := [0, 1, 0, 0, 0, 16, 48, 120, 255, 511, 1023]
theorem spec_l13Any.tab7 : rtab .any (opsOf Try.f55 7) = spec_l13Any.T7 := by kernel_rfl
theorem spec_l13Any.bits7 : waitsOk spec_l13Any.T7.2 spec_l13Any.B7 = true := by kernel_rfl
def spec_l13Any.T9 : Bool × List (List Nat × List Nat) := (true, [([], []), ([0], [0]), ([], []), ([], []), ([], []), ([3, 4], [3, 4]), ([1, 2, 0, 1, 2, 3, 4, 5], [1, 2]), ([6, 0, 1, 2, 3, 4, 5], [6]), ([7, 5, 5, 0, 1, 2, 3, 4, 5], [5, 7])])
def spec_l13Any.B9 : List Nat := [0, 1, 0, 0, 0, 24, 63, 127, 255]
theorem spec_l13Any.tab9 : rtab .any (opsOf Try.f55 9) = spec_l13Any.T9 := by kernel_rfl
theorem spec_l13Any.bits9 : waitsOk spec_l13Any.T9.2 spec_l13Any.B9 = true := by kernel_rfl
def spec_l13Any.T11 : Bool × List (List Nat × List Nat) := (true, [([], []), ([0], [0]), ([], []), ([2], [2]), ([], []), ([3, 4], [3, 4]), ([5], [5]), ([6], [6]), ([1, 7], [1, 7]), ([0, 1, 2, 3, 4, 5, 6, 7, 8], []), ([9, 8, 8, 0, 1, 2, 3, 4, 5, 6, 7, 8], [8, 9])])
def spec_l13Any.B11 : List Nat := [0, 1, 0, 4, 0, 28, 60, 124, 255, 511, 1023]
theorem spec_l13Any.tab11 : rtab .any (opsOf Try.f55 11) = spec_l13Any.T11 := by kernel_rfl
theorem spec_l13Any.bits11 : waitsOk spec_l13Any.T11.2 spec_l13Any.B11 = true := by kernel_rfl
theorem spec_l13Any.zI69 {P Q : Prop} (h : Aside0 P) (hw : P → Q := by intro h_; repeat (first | (with_reducible first | exact h_ | apply IsS69.alloc | apply IsS69.drew | apply IsS69.drewN | apply IsS69.set_1 | apply IsS69.set_2 | refine IsS69.far ?_ (Aside0.o (by assumption)) _) | exact h_)) : Q := hw h.o
set_option maxHeartbeats 40000000 in
set_option maxRecDepth 100000 in
theorem spec_l13Any.calls (k : Nat) (g : Nat) (s0_0 : List Int) (s0_1 : Int) (s0_2 : Int) (r1 : Int) (r2 : List Bool) (r3 : List (S46)) (r4 : Int) (r5 : Int) (w0 w : World) (hI : IsS69 w0 w g s0_0 s0_1 s0_2) (hB : Below w0.heap.size w0 w) (h : spec_l13Any.f k s0_0 s0_1 s0_2 = some (r1, r2, r3, r4, r5)) :
  Calls Try.prog 55 #[.pointer (some ⟨g, 0, none⟩)] w fun e w' => ∃ v1_ v2_ : Value, e = .returned (.agg #[.int .i64 r1, v1_, v2_]) ∧ Kd.R Kd.bool 4 w' w.heap.size (fun _ => True) v1_ r2 ∧ Kd.R k46 46 w' w.heap.size (fun _ => True) v2_ r3 ∧ IsS69 w0 w' g s0_0 r4 r5 ∧ Below w0.heap.size w0 w' ∧ KeepBut w w' g none := by
 have hu27 := Try.underlying27
 have hu46 := Try.underlying46
 have HI0 := aM hI
 have GI0 := aM (IsS69.ge hI)
 have HK := aM (KeepBut.refl w g none)
 have HL := aM hB.size
 clear hI
 have HW0 := aM hB.size
 have HB := aM hB
 clear hB
 have H : ((spec_l13Draw.f k s0_0 s0_1 s0_2).bind fun bt235 => (if (bt235.2.2.1.length : Int) = 0 then (some (bt235.1, bt235.2.1, bt235.2.2.1, bt235.2.2.2.1, bt235.2.2.2.2)) else ((spec_l1Below.f s0_0 bt235.2.2.2.1 bt235.2.2.2.2 (bt235.2.2.1.length : Int)).bind fun bt245 => ((spec_l1Below.f s0_0 bt245.2.1 bt245.2.2 12).bind fun bt248 => (if bt248.1 = 0 then ((spec_l1Int.f s0_0 bt248.2.1 bt248.2.2 (([(-1), bt235.1, 9223372036854775807] : List Int))).bind fun bt254 => (if 0 ≤ bt245.1 then (if bt245.1 < (bt235.2.2.1.length : Int) then (some (bt235.1, bt235.2.1, (bt235.2.2.1.set (bt245.1 : Int).toNat (⟨(rd_T46 bt235.2.2.1 bt245.1).f0, (rd_T46 bt235.2.2.1 bt245.1).f1, (rd_T46 bt235.2.2.1 bt245.1).f2, bt254.1⟩ : S46)), bt254.2.1, bt254.2.2)) else (none)) else (none))) else (if bt248.1 = 1 then ((spec_l1Int.f s0_0 bt248.2.1 bt248.2.2 (([(-1), 5, 6] : List Int))).bind fun bt261 => (if 0 ≤ bt245.1 then (if bt245.1 < (bt235.2.2.1.length : Int) then (some (bt235.1, bt235.2.1, (bt235.2.2.1.set (bt245.1 : Int).toNat (⟨(rd_T46 bt235.2.2.1 bt245.1).f0, (rd_T46 bt235.2.2.1 bt245.1).f1, bt261.1, (rd_T46 bt235.2.2.1 bt245.1).f3⟩ : S46)), bt261.2.1, bt261.2.2)) else (none)) else (none))) else (if bt248.1 = 2 then (if 0 ≤ bt245.1 then (if bt245.1 < (bt235.2.2.1.length : Int) then (if bt235.2.2.1.length < 4398046511104 then (some (bt235.1, bt235.2.1, (bt235.2.2.1 ++ [(⟨(rd_T46 bt235.2.2.1 bt245.1).f0, (rd_T46 bt235.2.2.1 bt245.1).f1, (rd_T46 bt235.2.2.1 bt245.1).f2, (rd_T46 bt235.2.2.1 bt245.1).f3⟩ : S46)]), bt248.2.1, bt248.2.2)) else (none)) else (none)) else (none)) else (if bt248.1 = 3 then (if 0 ≤ bt245.1 then (if bt245.1 < (bt235.2.2.1.length : Int) then (if bt235.2.2.1.length < 4398046511104 then (some (bt235.1, bt235.2.1, (bt235.2.2.1 ++ [(⟨(rd_T46 bt235.2.2.1 bt245.1).f0, !((rd_T46 bt235.2.2.1 bt245.1).f1), (rd_T46 bt235.2.2.1 bt245.1).f2, (rd_T46 bt235.2.2.1 bt245.1).f3⟩ : S46)]), bt248.2.1, bt248.2.2)) else (none)) else (none)) else (none)) else (if bt248.1 = 4 then ((spec_l1Int.f s0_0 bt248.2.1 bt248.2.2 (([0, 6, 7] : List Int))).bind fun bt277 => (some (bt277.1, bt235.2.1, bt235.2.2.1, bt277.2.1, bt277.2.2))) else (if bt248.1 = 5 then (if bt235.2.1.length < 140737488355328 then (some (bt235.1, (bt235.2.1 ++ [true]), bt235.2.2.1, bt248.2.1, bt248.2.2)) else (none)) else (some (bt235.1, bt235.2.1, bt235.2.2.1, bt248.2.1, bt248.2.2)))))))))))) = some (r1, r2, r3, r4, r5) := h
 clear h
 replace H := oB.mp H
 obtain ⟨⟨t235, t236, t239, t242, t243⟩, A20, H⟩ := H
 dsimp only at H
 have A2 := aM A20
 clear A20
 by_cases c3 : (t239.length : Int) = 0
 ·rw [if_pos c3] at H
  have c3b0 : ((t239.length : Int) == 0) = true := beq_iff_eq.mpr c3
  have c3b1 : ((t239.length : Int) != 0) = false := bne_eq_false_iff_eq.mpr c3
  clear c3
  simp only [Option.some.injEq, Prod.mk.injEq] at H
  obtain ⟨rfl, rfl, rfl, rfl, rfl⟩ := H
  go_enter Try.func55, Try.ntmps55
  go_wp2_with (first | ((with_reducible refine gD (N := 2) rfl ?_); refine box_event ?hg (N := 2) ?hd (cs := #[.int .i64 0, .slice none 0 0, .slice none 0 0]) (t := 27) ?hr ?_; (case hd => rfl); (case hg => rfl); (case hr => first | (go_simp; done) | (go_simp; rfl)); intro gb234 hg w4 hbox hb; replace HB := bS HB hb; have BK234 := aM (hbox); have GW234 := gK HK hg; have GE234 := gL HW0 GW234; replace HK := hkB HK hb; have NB0_234 := IsS69.nL HI0 hg; have NB234_0 := IsS69.nR HI0 hg; replace HI0 := aM (IsS69.below (spec_l13Any.zI69 HI0) hb); clear hb hbox hg) | ((with_reducible refine gC (f := 32) rfl ?_); refine goesL_ (some 7) rfl rfl Try.func32 (by kernel_rfl) rfl #[.pointer (some ⟨g, 0, none⟩)] rfl zG ?_; (with_reducible refine (spec_l13Draw.calls k g s0_0 s0_1 s0_2 t235 t236 t239 t242 t243 w0 _ ?s1 ?s2 A2.o).mono ?_); (case s1 => exact spec_l13Any.zI69 HI0); (case s2 => exact zB HB); rintro e w5 ⟨v237, v240, rfl, ho0, ho1, hi, hb, hk⟩; refine ⟨_, rfl, ?_⟩; replace BK234 := kbT hk BK234 NB234_0; have HO238 := aM (rO ho0 (keep_size (w := w) (g := g) (row := none) (zH HK))); have HO241 := aM (rO ho1 (keep_size (w := w) (g := g) (row := none) (zH HK))); replace HK := hkT HK hk; replace HB := aM (hb); replace HI0 := aM (hi); (try clear hb); (try clear ho0); (try clear ho1)) | ((with_reducible refine gD (N := 3) rfl ?_); refine box_event ?hg (N := 3) ?hd (cs := #[.int .i64 0, .slice none 0 0, .slice none 0 0]) (t := 27) ?hr ?_; (case hd => rfl); (case hg => rfl); (case hr => first | (go_simp; done) | (go_simp; rfl)); intro gb244 hg w6 hbox hb; replace HO238 := aM (rW (zR HO238) hb); replace HO241 := aM (rW (zR HO241) hb); replace HB := bS HB hb; have BK244 := aM (hbox); have GW244 := gK HK hg; have GE244 := gL HW0 GW244; replace HK := hkB HK hb; have NB234_244 := nL BK234 hg; have NB244_234 := nR BK234 hg; replace BK234 := kB BK234 hb; have NB0_244 := IsS69.nL HI0 hg; have NB244_0 := IsS69.nR HI0 hg; replace HI0 := aM (IsS69.below (spec_l13Any.zI69 HI0) hb); clear hb hbox hg; have hnb7 := NB244_234.o; have hnc7 := NB234_244.o; have hnb8 := NB244_0.o; have hnc8 := NB0_244.o; obtain ⟨z9_0, z9_1, z9_2, f9_0, f9_1, f9_2⟩ := bq3 BK244; obtain ⟨Ao10, co10, eo10⟩ := rL HO238.o; subst eo10; obtain ⟨Ao11, co11, eo11⟩ := rL HO241.o; subst eo11; have hnb12 := NB234_0.o; have hnc12 := NB0_234.o; obtain ⟨z13_0, z13_1, z13_2, f13_0, f13_1, f13_2⟩ := bq3 BK234))
  refine bodyPost_ret (results_cell_row rfl _ _ gb234 27 #[.int .i64 t235, .slice Ao10 t236.length co10, .slice Ao11 t239.length co11] (0, 0) _ rfl (by (with_reducible repeat (first | apply bN | apply bD | apply bA)); refine bP (cs := #[.int .i64 t235, .slice Ao10 t236.length co10, .slice none 0 0]) ?_ 2 _ rfl; (with_reducible repeat (first | apply bN | apply bD | apply bA)); refine bP (cs := #[.int .i64 t235, .slice none 0 0, .slice none 0 0]) ?_ 1 _ rfl; (with_reducible repeat (first | apply bN | apply bD | apply bA)); refine bP (cs := #[.int .i64 0, .slice none 0 0, .slice none 0 0]) ?_ 0 _ rfl; (with_reducible repeat (first | apply bN | apply bD | apply bA)); refine bF ?_ NB234_244.o _; (with_reducible repeat (first | apply bN | apply bD | apply bA)); refine bF ?_ NB234_244.o _; (with_reducible repeat (first | apply bN | apply bD | apply bA)); refine bF ?_ NB234_244.o _; (with_reducible repeat (first | apply bN | apply bD | apply bA)); exact BK234.o) Try.underlying27 rfl (by kernel_rfl)) rfl ?_
  exact ⟨_, _, zE, rM (rB2 HO238 BK244 BK234) (fun _ hk => trivial), rM (rB2 HO241 BK244 BK234) (fun _ hk => trivial), spec_l13Any.zI69 HI0, zB HB, zH HK⟩
 ·rw [if_neg c3] at H
  have c3b0 : ((t239.length : Int) == 0) = false := beq_eq_false_iff_ne.mpr c3
  have c3b1 : ((t239.length : Int) != 0) = true := bne_iff_ne.mpr c3
  have c3b2 : ¬ (t239 = []) := fun h_ => c3 (by rw [h_]; rfl)
  replace H := oB.mp H
  obtain ⟨⟨t245, t246, t247⟩, A140, H⟩ := H
  dsimp only at H
  have A14 := aM A140
  clear A140
  replace H := oB.mp H
  obtain ⟨⟨t248, t249, t250⟩, A150, H⟩ := H
  dsimp only at H
  have A15 := aM A150
  clear A150
  by_cases c16 : t248 = 0
  ·rw [if_pos c16] at H
   have c16b0 : (t248 == 0) = true := beq_iff_eq.mpr c16
   have c16b1 : (t248 != 0) = false := bne_eq_false_iff_eq.mpr c16
   clear c16
   obtain ⟨y251, hy251⟩ : ∃ y_ : List Int, y_ = (([(-1), t235, 9223372036854775807] : List Int)) := ⟨_, rfl⟩
   replace H : ((spec_l1Int.f s0_0 t249 t250 y251).bind fun bt254 => (if 0 ≤ t245 then (if t245 < (t239.length : Int) then (some (t235, t236, (t239.set (t245 : Int).toNat (⟨(rd_T46 t239 t245).f0, (rd_T46 t239 t245).f1, (rd_T46 t239 t245).f2, bt254.1⟩ : S46)), bt254.2.1, bt254.2.2)) else (none)) else (none))) = some (r1, r2, r3, r4, r5) := by first | (rw [hy251]; with_reducible exact H) | (rw [hy251]; exact H) | exact H
   have Ny251 := aM hy251
   clear hy251
   replace H := oB.mp H
   obtain ⟨⟨t254, t255, t256⟩, A170, H⟩ := H
   dsimp only at H
   have A17 := aM A170
   clear A170
   obtain ⟨c18, H⟩ := ifS H
   have c18b0 : decide (0 ≤ t245) = true := dT c18
   clear c18
   obtain ⟨c19, H⟩ := ifS H
   have c19b0 : decide (t245 < (t239.length : Int)) = true := dT c19
   clear c19
   obtain ⟨y257, hy257⟩ : ∃ y_ : List (S46), y_ = (t239.set (t245 : Int).toNat (⟨(rd_T46 t239 t245).f0, (rd_T46 t239 t245).f1, (rd_T46 t239 t245).f2, t254⟩ : S46)) := ⟨_, rfl⟩
   replace H : (some (t235, t236, y257, t255, t256)) = some (r1, r2, r3, r4, r5) := by first | (rw [hy257]; with_reducible exact H) | (rw [hy257]; exact H) | exact H
   have Ny257 := aM hy257
   clear hy257
   simp only [Option.some.injEq, Prod.mk.injEq] at H
   obtain ⟨rfl, rfl, rfl, rfl, rfl⟩ := H
   go_enter Try.func55, Try.ntmps55
   try go_wp2_with (first | ((with_reducible refine gD (N := 2) rfl ?_); refine box_event ?hg (N := 2) ?hd (cs := #[.int .i64 0, .slice none 0 0, .slice none 0 0]) (t := 27) ?hr ?_; (case hd => rfl); (case hg => rfl); (case hr => first | (go_simp; done) | (go_simp; rfl)); intro gb234 hg w21 hbox hb; replace HB := bS HB hb; have BK234 := aM (hbox); have GW234 := gK HK hg; have GE234 := gL HW0 GW234; replace HK := hkB HK hb; have NB0_234 := IsS69.nL HI0 hg; have NB234_0 := IsS69.nR HI0 hg; replace HI0 := aM (IsS69.below (spec_l13Any.zI69 HI0) hb); clear hb hbox hg) | ((with_reducible refine gC (f := 32) rfl ?_); refine goesL_ (some 7) rfl rfl Try.func32 (by kernel_rfl) rfl #[.pointer (some ⟨g, 0, none⟩)] rfl zG ?_; (with_reducible refine (spec_l13Draw.calls k g s0_0 s0_1 s0_2 t235 t236 t239 t242 t243 w0 _ ?s1 ?s2 A2.o).mono ?_); (case s1 => exact spec_l13Any.zI69 HI0); (case s2 => exact zB HB); rintro e w22 ⟨v237, v240, rfl, ho0, ho1, hi, hb, hk⟩; refine ⟨_, rfl, ?_⟩; replace BK234 := kbT hk BK234 NB234_0; have HO238 := aM (rO ho0 (keep_size (w := w) (g := g) (row := none) (zH HK))); have HO241 := aM (rO ho1 (keep_size (w := w) (g := g) (row := none) (zH HK))); replace HK := hkT HK hk; replace HB := aM (hb); replace HI0 := aM (hi); (try clear hb); (try clear ho0); (try clear ho1)) | ((with_reducible refine gD (N := 3) rfl ?_); refine box_event ?hg (N := 3) ?hd (cs := #[.int .i64 0, .slice none 0 0, .slice none 0 0]) (t := 27) ?hr ?_; (case hd => rfl); (case hg => rfl); (case hr => first | (go_simp; done) | (go_simp; rfl)); intro gb244 hg w23 hbox hb; replace HO238 := aM (rW (zR HO238) hb); replace HO241 := aM (rW (zR HO241) hb); replace HB := bS HB hb; have BK244 := aM (hbox); have GW244 := gK HK hg; have GE244 := gL HW0 GW244; replace HK := hkB HK hb; have NB234_244 := nL BK234 hg; have NB244_234 := nR BK234 hg; replace BK234 := kB BK234 hb; have NB0_244 := IsS69.nL HI0 hg; have NB244_0 := IsS69.nR HI0 hg; replace HI0 := aM (IsS69.below (spec_l13Any.zI69 HI0) hb); clear hb hbox hg; have hnb24 := NB244_234.o; have hnc24 := NB234_244.o; have hnb25 := NB244_0.o; have hnc25 := NB0_244.o; obtain ⟨z26_0, z26_1, z26_2, f26_0, f26_1, f26_2⟩ := bq3 BK244; obtain ⟨Ao27, co27, eo27⟩ := rL HO238.o; subst eo27; obtain ⟨Ao28, co28, eo28⟩ := rL HO241.o; subst eo28) | ((with_reducible refine gate_store (t := 27) (p := 3) rfl ?_); refine store_event (t := 27) (p := 3) (v := ?vo_w29) (w1 := (((w23.setCell ⟨gb244, 0, none⟩ (.int .i64 t235)).setCell ⟨gb244, 1, none⟩ (.slice Ao27 t236.length co27)).setCell ⟨gb244, 2, none⟩ (.slice Ao28 t239.length co28))) ?hg ?ho ?hn ?hr ?_; (case ho => rfl); (case hg => rfl); (case hn => rfl); (case hr => first | (go_simp; done) | (go_simp; rfl)); intro w29 hw; replace HO238 : Aside0 (Kd.R Kd.bool 4 w29 w.heap.size (fun _ => True) (.slice Ao27 t236.length co27) t236) := ⟨(by rw [hw]; exact (rM (rB HO238 BK244) (fun _ hk => trivial)))⟩; replace HO241 : Aside0 (Kd.R k46 46 w29 w.heap.size (fun _ => True) (.slice Ao28 t239.length co28) t239) := ⟨(by rw [hw]; exact (rM (rB HO241 BK244) (fun _ hk => trivial)))⟩; replace BK234 : Aside0 (w29.heap[gb234]? = some (.cells #[.int .i64 0, .slice none 0 0, .slice none 0 0] 27 (0, 0))) := ⟨(by rw [hw]; exact (kF BK234))⟩; replace BK244 : Aside0 (w29.heap[gb244]? = some (.cells #[.int .i64 t235, .slice Ao27 t236.length co27, .slice Ao28 t239.length co28] 27 (0, 0))) := ⟨(by rw [hw]; exact (by (with_reducible repeat (first | apply bN | apply bD | apply bA)); refine bP (cs := #[.int .i64 t235, .slice Ao27 t236.length co27, .slice none 0 0]) ?_ 2 _ rfl; (with_reducible repeat (first | apply bN | apply bD | apply bA)); refine bP (cs := #[.int .i64 t235, .slice none 0 0, .slice none 0 0]) ?_ 1 _ rfl; (with_reducible repeat (first | apply bN | apply bD | apply bA)); refine bP (cs := #[.int .i64 0, .slice none 0 0, .slice none 0 0]) ?_ 0 _ rfl; (with_reducible repeat (first | apply bN | apply bD | apply bA)); exact BK244.o))⟩; replace HK : Aside0 (KeepBut w w29 g none) := ⟨(by rw [hw]; exact (zH HK))⟩; replace HB : Aside0 (Below w0.heap.size w0 w29) := ⟨(by rw [hw]; exact (zB HB))⟩; replace HI0 : Aside0 (IsS69 w0 w29 g s0_0 t242 t243) := ⟨(by rw [hw]; exact (spec_l13Any.zI69 HI0))⟩; clear hw; obtain ⟨z30_0, z30_1, z30_2, f30_0, f30_1, f30_2⟩ := bq3 BK244) | ((with_reducible refine gC (f := 33) rfl ?_); refine goesL_ (some 17) rfl rfl Try.func33 (by kernel_rfl) rfl #[.pointer (some ⟨g, 0, none⟩), .int .i64 (t239.length : Int)] rfl zG ?_; (with_reducible refine (spec_l1Below.calls g s0_0 t242 t243 (t239.length : Int) t245 t246 t247 w0 _ ?s1 ?s2 A14.o).mono ?_); (case s1 => exact spec_l13Any.zI69 HI0); (case s2 => exact zB HB); rintro e w31 ⟨rfl, hi, hb, hk⟩; refine ⟨_, rfl, ?_⟩; replace BK234 := kbT hk BK234 NB234_0; replace HO238 := IsS69.kR HI0 HO238 hk; replace HO241 := IsS69.kR HI0 HO241 hk; replace BK244 := kbT hk BK244 NB244_0; replace HK := hkT HK hk; replace HB := aM (hb); replace HI0 := aM (hi); (try clear hb)) | ((with_reducible refine gC (f := 33) rfl ?_); refine goesL_ (some 19) rfl rfl Try.func33 (by kernel_rfl) rfl #[.pointer (some ⟨g, 0, none⟩), .int .i64 12] rfl zG ?_; (with_reducible refine (spec_l1Below.calls g s0_0 t246 t247 12 t248 t249 t250 w0 _ ?s1 ?s2 A15.o).mono ?_); (case s1 => exact spec_l13Any.zI69 HI0); (case s2 => exact zB HB); rintro e w32 ⟨rfl, hi, hb, hk⟩; refine ⟨_, rfl, ?_⟩; replace BK234 := kbT hk BK234 NB234_0; replace HO238 := IsS69.kR HI0 HO238 hk; replace HO241 := IsS69.kR HI0 HO241 hk; replace BK244 := kbT hk BK244 NB244_0; replace HK := hkT HK hk; replace HB := aM (hb); replace HI0 := aM (hi); (try clear hb)))
   replace HO238 := aM (rD HO238.o)
   replace HO241 := aM (rD HO241.o)
   replace BK234 := aM (bD BK234.o)
   replace BK244 := aM (bD BK244.o)
   replace HI0 := aM (IsS69.drew HI0.o)
   replace HK := aM (keep_drew HK.o)
   replace HB := aM (below_drew1 HB.o)
   refine start_ (n := 11) (S := fun w' => w'.cell? ⟨gb244, 0, none⟩ = some (.int .i64 t235) ∧ w'.cell? ⟨gb244, 1, none⟩ = some (.slice Ao27 t236.length co27) ∧ w'.cell? ⟨gb244, 2, none⟩ = some (.slice Ao28 t239.length co28)) (ds := [10]) (bm 11 0) (by kernel_rfl) rfl (bm0 _) ⟨bc0 BK244, bc1 BK244, bc2 BK244⟩ (fun hK4 => ?_); refine with_tabW spec_l13Any.tab7 spec_l13Any.bits7 (fun HT_ HW_ => ?_)
   generalize w32.drew = w33 at HO238 HO241 BK234 BK244 HI0 HK HB hK4 ⊢
   refine pW 0 22 11 1 HT_ rfl rfl ?_
   refine pW 2 24 11 5 HT_ rfl rfl ?_
   refine pW 3 25 11 13 HT_ rfl rfl ?_
   refine pW 4 26 11 29 HT_ rfl rfl ?_
   refine tW 1 23 11 31 HT_ HW_ rfl rfl hK4 ?_
   refine tW 5 27 11 63 HT_ HW_ rfl rfl hK4 ?_
   refine one_ (i := 6) (N := some 28) (bm 11 127) rfl rfl (one_of HT_.o (by kernel_rfl)) (by decide) (fun K hK => ?_)
   refine Kd.R_lit_step (Kd.int .i64) _ 3 ?hg (N := 28) ?hd (xs := ([(-1), t235, 9223372036854775807] : List Int)) (inner := [.int .i64 (-1), .int .i64 t235, .int .i64 9223372036854775807]) (ok := fun _ => True) (okp := fun _ => True) ?hr ?hp (fun _ hk => hk) trivial (Below.refl _ _) (Nat.le_refl _) (by simp) ?_; (case hd => rfl); (case hg => rfl); (case hr => first | (go_simp; done) | (go_simp; rfl)); (case hp => exact (Reps.one (show Kd.M (Kd.int .i64) _ _ _ (-1) [.int .i64 (-1)] from rfl) (Reps.one (show Kd.M (Kd.int .i64) _ _ _ t235 [.int .i64 t235] from rfl) (Reps.one (show Kd.M (Kd.int .i64) _ _ _ 9223372036854775807 [.int .i64 9223372036854775807] from rfl) (Reps.none _ _)))))
   intro v252 w34 ho35 hb hg_ hnew_
   clear hg_ hnew_
   (first | rw [← Ny251.o] at ho35 | (simp only [Int.reduceToNat] at ho35; rw [← Ny251.o] at ho35))
   replace HO238 := aM (rW (zR HO238) hb)
   replace HO241 := aM (rW (zR HO241) hb)
   have HO253 := aM (rO ho35 (keep_size (w := w) (g := g) (row := none) (zH HK)))
   replace BK234 := kB BK234 hb
   replace BK244 := kB BK244 hb
   replace HK := hkB HK hb
   replace HB := bS HB hb
   replace HI0 := aM (IsS69.below (spec_l13Any.zI69 HI0) hb)
   clear hb ho35
   obtain ⟨Ao36, co36, eo36⟩ := rL HO253.o
   (first | subst eo36 | (obtain ⟨f4_, f5_⟩ := slI eo36; subst f4_; subst f5_))
   refine hK.out _ _ ⟨bc0 BK244, bc1 BK244, bc2 BK244⟩ (fun hK4 => ?_)
   clear hK K
   refine nU 28 ?_
   refine one_ (i := 7) (N := some 29) (bm 11 255) rfl rfl (one_of HT_.o (by kernel_rfl)) (by decide) (fun K hK => ?_)
   refine goes_ Try.func63 (by kernel_rfl) rfl #[.pointer (some ⟨g, 0, none⟩), .slice Ao36 y251.length co36] (by rfl) rfl rfl zG ?_
   with_reducible refine (spec_l1Int.calls g s0_0 t249 t250 _ _ y251 t254 t255 t256 w0 _ ?s1 ?s2 ?s3 ?s4 ?s5 A17.o).mono ?_
   (case s1 => exact spec_l13Any.zI69 HI0)
   (case s2 => exact zB HB)
   (case s3 => exact cU (rQ HO253.o).2.2)
   (case s4 => exact (rQ HO253.o).2.1)
   (case s5 => exact far_slice (IsS69.own_ne HI0.o HO253.o (by decide)))
   rintro e w37 ⟨rfl, hi, hb, hk⟩
   refine ⟨_, rfl, ?_⟩
   replace BK234 := kbT hk BK234 NB234_0
   replace HO238 := IsS69.kR HI0 HO238 hk
   replace HO241 := IsS69.kR HI0 HO241 hk
   replace BK244 := kbT hk BK244 NB244_0
   replace HO253 := IsS69.kR HI0 HO253 hk
   replace HK := hkT HK hk
   replace HB := aM (hb)
   replace HI0 := aM (hi)
   (try clear hb); (try clear hb2); (try clear hk); (try clear hi)
   have p20 : 0 ≤ (t245 : Int) := zD
   have q20 : (t245 : Int) < ((t239.length : Int) : Int) := zD
   obtain ⟨go20, co20, eo20, gb20, gl20, cl20, HG20⟩ := Kd.R_form HO241.o (by omega)
   (first | cases eo20 | (injection eo20 with ea_ en_ ec_; (first | subst ea_ | (injection ea_ with ea_; subst ea_)); subst ec_; clear en_))
   have GB20 := aM gb20
   have GG20 := aM HG20
   clear gb20 gl20 HG20
   obtain ⟨ce20, hcl20, hM20, hcc20, hfr20⟩ := Kd.R_elem HO241.o z46 (t245 : Int) p20 q20
   obtain rfl := k46_openM hM20
   have hx20_0 : World.cell? _ ⟨go20, (t245 : Int).toNat * 4, none⟩ = some (.int .i64 ((rd_T46 t239 t245).f0)) := hcc20 0 _ rfl
   have hx20_1 : World.cell? _ ⟨go20, (t245 : Int).toNat * 4 + 1, none⟩ = some (.bool ((rd_T46 t239 t245).f1)) := hcc20 1 _ rfl
   have hx20_2 : World.cell? _ ⟨go20, (t245 : Int).toNat * 4 + 2, none⟩ = some (.int .i64 ((rd_T46 t239 t245).f2)) := hcc20 2 _ rfl
   have hx20_3 : World.cell? _ ⟨go20, (t245 : Int).toNat * 4 + 3, none⟩ = some (.int .i64 ((rd_T46 t239 t245).f3)) := hcc20 3 _ rfl
   have hf20_0 : World.frozen? _ ⟨go20, (t245 : Int).toNat * 4, none⟩ = false := hfr20 0
   have hf20_1 : World.frozen? _ ⟨go20, (t245 : Int).toNat * 4 + 1, none⟩ = false := hfr20 1
   have hf20_2 : World.frozen? _ ⟨go20, (t245 : Int).toNat * 4 + 2, none⟩ = false := hfr20 2
   have hf20_3 : World.frozen? _ ⟨go20, (t245 : Int).toNat * 4 + 3, none⟩ = false := hfr20 3
   clear hcl20 hcc20 hfr20 hM20
   replace p20 := eq_true p20
   replace q20 := eq_true q20
   have HN0_go20 := aM (show g ≠ go20 from by have h_ := IsS69.own_ne HI0.o HO241.o (by decide); intro e_; exact h_ (by rw [e_]; rfl))
   obtain ⟨ce38, hcl38, hM38, hcc38, hfr38⟩ := Kd.R_elem HO241.o z46 (t245 : Int) (zD) (by have h_ : (t245 : Int) < ((t239.length : Int) : Int) := zD; first | exact h_ | (have e_ := (rQ HO241.o).1; omega) | simpa using h_)
   obtain rfl := k46_openM hM38
   have HP38 := (Kd.R_seg HO241.o (t245 : Int) (zD) (by have h_ : (t245 : Int) < ((t239.length : Int) : Int) := zD; first | exact h_ | (have e_ := (rQ HO241.o).1; omega) | simpa using h_) (seg := [.int .i64 t254]) (j := 3) hcl38 hcc38 (show 4 ≤ 4 from by decide) (x' := (⟨(rd_T46 t239 t245).f0, (rd_T46 t239 t245).f1, (rd_T46 t239 t245).f2, t254⟩ : S46)) (k46_mkM _ _ _ (⟨(rd_T46 t239 t245).f0, (rd_T46 t239 t245).f1, (rd_T46 t239 t245).f2, t254⟩ : S46) ) (fun _ hk => hk)).1
   rw [← Ny257.o] at HP38
   have HQ38 := aM HP38
   clear hcl38 hcc38 hfr38 hM38 HP38
   refine hK.out _ _ ⟨bc0 BK244, bc1 BK244, bc2 BK244⟩ (fun hK4 => ?_)
   clear hK K
   refine nU 29 ?_
   refine pW 8 30 11 511 HT_ rfl rfl ?_
   refine pW 9 31 11 1023 HT_ rfl rfl ?_
   refine last_ (i := 10) (N := none) (bm 11 2047) rfl rfl (one_of HT_.o (by kernel_rfl)) (by decide) (fun K hK => ?_)
   refine skip_ (w1 := ?_) (by rfl) rfl ?_ ?_
   rotate_left
   ·go_simp
    rfl
   refine hK.out _ _ ?_
   clear hK K
   refine done_ (done_of HT_.o (by kernel_rfl)) ?_
   try clear hK4
   have n0_ : Aside0 (Kd.R Kd.bool 4 (w37.setCell ⟨go20, (t245 : Int).toNat * 4 + 3, none⟩ (.int .i64 t254)) w.heap.size (fun _ => True) (.slice Ao27 t236.length co27) t236) := ⟨by (with_reducible repeat (first | apply rA | apply rN | apply rD)); exact rM (Kd.R_far (p := ⟨go20, (t245 : Int).toNat * 4 + 3, none⟩) (Kd.R_types HO238.o GG20.o (by decide)) (fun _ hk => hk.2) (.int .i64 t254)) (fun _ hk => trivial)⟩
   have n1_ : Aside0 (Kd.R k46 46 (w37.setCell ⟨go20, (t245 : Int).toNat * 4 + 3, none⟩ (.int .i64 t254)) w.heap.size (fun _ => True) (.slice (some ⟨go20, 0, none⟩) t239.length co28) y257) := ⟨zR HQ38⟩
   have n2_ : Aside0 (Kd.R (Kd.int .i64) 3 (w37.setCell ⟨go20, (t245 : Int).toNat * 4 + 3, none⟩ (.int .i64 t254)) w.heap.size (fun _ => True) (.slice Ao36 y251.length co36) y251) := ⟨by (with_reducible repeat (first | apply rA | apply rN | apply rD)); exact rM (Kd.R_far (p := ⟨go20, (t245 : Int).toNat * 4 + 3, none⟩) (Kd.R_types HO253.o GG20.o (by decide)) (fun _ hk => hk.2) (.int .i64 t254)) (fun _ hk => trivial)⟩
   have n3_ : Aside0 ((w37.setCell ⟨go20, (t245 : Int).toNat * 4 + 3, none⟩ (.int .i64 t254)).heap[gb234]? = some (.cells #[.int .i64 0, .slice none 0 0, .slice none 0 0] 27 (0, 0))) := ⟨by (with_reducible repeat (first | apply bN | apply bD | apply bA)); refine bF ?_ (by have h_ := Kd.R_ne HO241.o BK234.o (by decide); intro e_; exact h_ (by rw [e_]; rfl)) _; (with_reducible repeat (first | apply bN | apply bD | apply bA)); exact BK234.o⟩
   have n4_ : Aside0 ((w37.setCell ⟨go20, (t245 : Int).toNat * 4 + 3, none⟩ (.int .i64 t254)).heap[gb244]? = some (.cells #[.int .i64 t235, .slice Ao27 t236.length co27, .slice (some ⟨go20, 0, none⟩) t239.length co28] 27 (0, 0))) := ⟨by (with_reducible repeat (first | apply bN | apply bD | apply bA)); refine bF ?_ (by have h_ := Kd.R_ne HO241.o BK244.o (by decide); intro e_; exact h_ (by rw [e_]; rfl)) _; (with_reducible repeat (first | apply bN | apply bD | apply bA)); exact BK244.o⟩
   have n5_ : Aside0 (IsS69 w0 (w37.setCell ⟨go20, (t245 : Int).toNat * 4 + 3, none⟩ (.int .i64 t254)) g s0_0 t255 t256) := ⟨spec_l13Any.zI69 HI0⟩
   have n6_ : Aside0 (KeepBut w (w37.setCell ⟨go20, (t245 : Int).toNat * 4 + 3, none⟩ (.int .i64 t254)) g none) := ⟨zH HK⟩
   have n7_ : Aside0 (Below w0.heap.size w0 (w37.setCell ⟨go20, (t245 : Int).toNat * 4 + 3, none⟩ (.int .i64 t254))) := ⟨by repeat (first | (with_reducible first | exact HB.o | apply below_alloc | apply pw_below_drewN | apply below_drew1 | refine below_set ?_ (Nat.le_trans HL.o GB20.o) | refine below_set ?_ (IsS69.ge HI0.o) | refine below_set ?_ GE234.o | refine below_set ?_ GE244.o) | exact HB.o)⟩
   (try clear HO238); (try clear HO241); (try clear HO253); (try clear BK234); (try clear BK244); (try clear HI0); (try clear HK); (try clear HB)
   generalize (w37.setCell ⟨go20, (t245 : Int).toNat * 4 + 3, none⟩ (.int .i64 t254)) = w39 at n0_ n1_ n2_ n3_ n4_ n5_ n6_ n7_ ⊢
   have HO238 := n0_
   have HO241 := n1_
   have HO253 := n2_
   have BK234 := n3_
   have BK244 := n4_
   have HI0 := n5_
   have HK := n6_
   have HB := n7_
   clear n0_ n1_ n2_ n3_ n4_ n5_ n6_ n7_
   obtain ⟨z40_0, z40_1, z40_2, f40_0, f40_1, f40_2⟩ := bq3 BK244
   have hnb41 := NB234_0.o
   have hnc41 := NB0_234.o
   obtain ⟨z42_0, z42_1, z42_2, f42_0, f42_1, f42_2⟩ := bq3 BK234
   try go_wp2
   refine bodyPost_ret (results_cell_row rfl _ _ gb234 27 #[.int .i64 t235, .slice Ao27 t236.length co27, .slice (some ⟨go20, 0, none⟩) t239.length co28] (0, 0) _ rfl (by (with_reducible repeat (first | apply bN | apply bD | apply bA)); refine bP (cs := #[.int .i64 t235, .slice Ao27 t236.length co27, .slice none 0 0]) ?_ 2 _ rfl; (with_reducible repeat (first | apply bN | apply bD | apply bA)); refine bP (cs := #[.int .i64 t235, .slice none 0 0, .slice none 0 0]) ?_ 1 _ rfl; (with_reducible repeat (first | apply bN | apply bD | apply bA)); refine bP (cs := #[.int .i64 0, .slice none 0 0, .slice none 0 0]) ?_ 0 _ rfl; (with_reducible repeat (first | apply bN | apply bD | apply bA)); exact BK234.o) Try.underlying27 rfl (by kernel_rfl)) rfl ?_
   exact ⟨_, _, zE, rM (rB HO238 BK234) (fun _ hk => trivial), rM (rB HO241 BK234) (fun _ hk => trivial), spec_l13Any.zI69 HI0, zB HB, zH HK⟩
  ·rw [if_neg c16] at H
   have c16b0 : (t248 == 0) = false := beq_eq_false_iff_ne.mpr c16
   have c16b1 : (t248 != 0) = true := bne_iff_ne.mpr c16
   by_cases c43 : t248 = 1
   ·rw [if_pos c43] at H
    have c43b0 : (t248 == 1) = true := beq_iff_eq.mpr c43
    have c43b1 : (t248 != 1) = false := bne_eq_false_iff_eq.mpr c43
    clear c43
    obtain ⟨y258, hy258⟩ : ∃ y_ : List Int, y_ = (([(-1), 5, 6] : List Int)) := ⟨_, rfl⟩
    replace H : ((spec_l1Int.f s0_0 t249 t250 y258).bind fun bt261 => (if 0 ≤ t245 then (if t245 < (t239.length : Int) then (some (t235, t236, (t239.set (t245 : Int).toNat (⟨(rd_T46 t239 t245).f0, (rd_T46 t239 t245).f1, bt261.1, (rd_T46 t239 t245).f3⟩ : S46)), bt261.2.1, bt261.2.2)) else (none)) else (none))) = some (r1, r2, r3, r4, r5) := by first | (rw [hy258]; with_reducible exact H) | (rw [hy258]; exact H) | exact H
    have Ny258 := aM hy258
    clear hy258
    replace H := oB.mp H
    obtain ⟨⟨t261, t262, t263⟩, A440, H⟩ := H
    dsimp only at H
    have A44 := aM A440
    clear A440
    obtain ⟨c45, H⟩ := ifS H
    have c45b0 : decide (0 ≤ t245) = true := dT c45
    clear c45
    obtain ⟨c46, H⟩ := ifS H
    have c46b0 : decide (t245 < (t239.length : Int)) = true := dT c46
    clear c46
    obtain ⟨y264, hy264⟩ : ∃ y_ : List (S46), y_ = (t239.set (t245 : Int).toNat (⟨(rd_T46 t239 t245).f0, (rd_T46 t239 t245).f1, t261, (rd_T46 t239 t245).f3⟩ : S46)) := ⟨_, rfl⟩
    replace H : (some (t235, t236, y264, t262, t263)) = some (r1, r2, r3, r4, r5) := by first | (rw [hy264]; with_reducible exact H) | (rw [hy264]; exact H) | exact H
    have Ny264 := aM hy264
    clear hy264
    simp only [Option.some.injEq, Prod.mk.injEq] at H
    obtain ⟨rfl, rfl, rfl, rfl, rfl⟩ := H
    go_enter Try.func55, Try.ntmps55
    try go_wp2_with (first | ((with_reducible refine gD (N := 2) rfl ?_); refine box_event ?hg (N := 2) ?hd (cs := #[.int .i64 0, .slice none 0 0, .slice none 0 0]) (t := 27) ?hr ?_; (case hd => rfl); (case hg => rfl); (case hr => first | (go_simp; done) | (go_simp; rfl)); intro gb234 hg w48 hbox hb; replace HB := bS HB hb; have BK234 := aM (hbox); have GW234 := gK HK hg; have GE234 := gL HW0 GW234; replace HK := hkB HK hb; have NB0_234 := IsS69.nL HI0 hg; have NB234_0 := IsS69.nR HI0 hg; replace HI0 := aM (IsS69.below (spec_l13Any.zI69 HI0) hb); clear hb hbox hg) | ((with_reducible refine gC (f := 32) rfl ?_); refine goesL_ (some 7) rfl rfl Try.func32 (by kernel_rfl) rfl #[.pointer (some ⟨g, 0, none⟩)] rfl zG ?_; (with_reducible refine (spec_l13Draw.calls k g s0_0 s0_1 s0_2 t235 t236 t239 t242 t243 w0 _ ?s1 ?s2 A2.o).mono ?_); (case s1 => exact spec_l13Any.zI69 HI0); (case s2 => exact zB HB); rintro e w49 ⟨v237, v240, rfl, ho0, ho1, hi, hb, hk⟩; refine ⟨_, rfl, ?_⟩; replace BK234 := kbT hk BK234 NB234_0; have HO238 := aM (rO ho0 (keep_size (w := w) (g := g) (row := none) (zH HK))); have HO241 := aM (rO ho1 (keep_size (w := w) (g := g) (row := none) (zH HK))); replace HK := hkT HK hk; replace HB := aM (hb); replace HI0 := aM (hi); (try clear hb); (try clear ho0); (try clear ho1)) | ((with_reducible refine gD (N := 3) rfl ?_); refine box_event ?hg (N := 3) ?hd (cs := #[.int .i64 0, .slice none 0 0, .slice none 0 0]) (t := 27) ?hr ?_; (case hd => rfl); (case hg => rfl); (case hr => first | (go_simp; done) | (go_simp; rfl)); intro gb244 hg w50 hbox hb; replace HO238 := aM (rW (zR HO238) hb); replace HO241 := aM (rW (zR HO241) hb); replace HB := bS HB hb; have BK244 := aM (hbox); have GW244 := gK HK hg; have GE244 := gL HW0 GW244; replace HK := hkB HK hb; have NB234_244 := nL BK234 hg; have NB244_234 := nR BK234 hg; replace BK234 := kB BK234 hb; have NB0_244 := IsS69.nL HI0 hg; have NB244_0 := IsS69.nR HI0 hg; replace HI0 := aM (IsS69.below (spec_l13Any.zI69 HI0) hb); clear hb hbox hg; have hnb51 := NB244_234.o; have hnc51 := NB234_244.o; have hnb52 := NB244_0.o; have hnc52 := NB0_244.o; obtain ⟨z53_0, z53_1, z53_2, f53_0, f53_1, f53_2⟩ := bq3 BK244; obtain ⟨Ao54, co54, eo54⟩ := rL HO238.o; subst eo54; obtain ⟨Ao55, co55, eo55⟩ := rL HO241.o; subst eo55) | ((with_reducible refine gate_store (t := 27) (p := 3) rfl ?_); refine store_event (t := 27) (p := 3) (v := ?vo_w56) (w1 := (((w50.setCell ⟨gb244, 0, none⟩ (.int .i64 t235)).setCell ⟨gb244, 1, none⟩ (.slice Ao54 t236.length co54)).setCell ⟨gb244, 2, none⟩ (.slice Ao55 t239.length co55))) ?hg ?ho ?hn ?hr ?_; (case ho => rfl); (case hg => rfl); (case hn => rfl); (case hr => first | (go_simp; done) | (go_simp; rfl)); intro w56 hw; replace HO238 : Aside0 (Kd.R Kd.bool 4 w56 w.heap.size (fun _ => True) (.slice Ao54 t236.length co54) t236) := ⟨(by rw [hw]; exact (rM (rB HO238 BK244) (fun _ hk => trivial)))⟩; replace HO241 : Aside0 (Kd.R k46 46 w56 w.heap.size (fun _ => True) (.slice Ao55 t239.length co55) t239) := ⟨(by rw [hw]; exact (rM (rB HO241 BK244) (fun _ hk => trivial)))⟩; replace BK234 : Aside0 (w56.heap[gb234]? = some (.cells #[.int .i64 0, .slice none 0 0, .slice none 0 0] 27 (0, 0))) := ⟨(by rw [hw]; exact (kF BK234))⟩; replace BK244 : Aside0 (w56.heap[gb244]? = some (.cells #[.int .i64 t235, .slice Ao54 t236.length co54, .slice Ao55 t239.length co55] 27 (0, 0))) := ⟨(by rw [hw]; exact (by (with_reducible repeat (first | apply bN | apply bD | apply bA)); refine bP (cs := #[.int .i64 t235, .slice Ao54 t236.length co54, .slice none 0 0]) ?_ 2 _ rfl; (with_reducible repeat (first | apply bN | apply bD | apply bA)); refine bP (cs := #[.int .i64 t235, .slice none 0 0, .slice none 0 0]) ?_ 1 _ rfl; (with_reducible repeat (first | apply bN | apply bD | apply bA)); refine bP (cs := #[.int .i64 0, .slice none 0 0, .slice none 0 0]) ?_ 0 _ rfl; (with_reducible repeat (first | apply bN | apply bD | apply bA)); exact BK244.o))⟩; replace HK : Aside0 (KeepBut w w56 g none) := ⟨(by rw [hw]; exact (zH HK))⟩; replace HB : Aside0 (Below w0.heap.size w0 w56) := ⟨(by rw [hw]; exact (zB HB))⟩; replace HI0 : Aside0 (IsS69 w0 w56 g s0_0 t242 t243) := ⟨(by rw [hw]; exact (spec_l13Any.zI69 HI0))⟩; clear hw; obtain ⟨z57_0, z57_1, z57_2, f57_0, f57_1, f57_2⟩ := bq3 BK244) | ((with_reducible refine gC (f := 33) rfl ?_); refine goesL_ (some 17) rfl rfl Try.func33 (by kernel_rfl) rfl #[.pointer (some ⟨g, 0, none⟩), .int .i64 (t239.length : Int)] rfl zG ?_; (with_reducible refine (spec_l1Below.calls g s0_0 t242 t243 (t239.length : Int) t245 t246 t247 w0 _ ?s1 ?s2 A14.o).mono ?_); (case s1 => exact spec_l13Any.zI69 HI0); (case s2 => exact zB HB); rintro e w58 ⟨rfl, hi, hb, hk⟩; refine ⟨_, rfl, ?_⟩; replace BK234 := kbT hk BK234 NB234_0; replace HO238 := IsS69.kR HI0 HO238 hk; replace HO241 := IsS69.kR HI0 HO241 hk; replace BK244 := kbT hk BK244 NB244_0; replace HK := hkT HK hk; replace HB := aM (hb); replace HI0 := aM (hi); (try clear hb)) | ((with_reducible refine gC (f := 33) rfl ?_); refine goesL_ (some 19) rfl rfl Try.func33 (by kernel_rfl) rfl #[.pointer (some ⟨g, 0, none⟩), .int .i64 12] rfl zG ?_; (with_reducible refine (spec_l1Below.calls g s0_0 t246 t247 12 t248 t249 t250 w0 _ ?s1 ?s2 A15.o).mono ?_); (case s1 => exact spec_l13Any.zI69 HI0); (case s2 => exact zB HB); rintro e w59 ⟨rfl, hi, hb, hk⟩; refine ⟨_, rfl, ?_⟩; replace BK234 := kbT hk BK234 NB234_0; replace HO238 := IsS69.kR HI0 HO238 hk; replace HO241 := IsS69.kR HI0 HO241 hk; replace BK244 := kbT hk BK244 NB244_0; replace HK := hkT HK hk; replace HB := aM (hb); replace HI0 := aM (hi); (try clear hb)))
    replace HO238 := aM (rD HO238.o)
    replace HO241 := aM (rD HO241.o)
    replace BK234 := aM (bD BK234.o)
    replace BK244 := aM (bD BK244.o)
    replace HI0 := aM (IsS69.drew HI0.o)
    replace HK := aM (keep_drew HK.o)
    replace HB := aM (below_drew1 HB.o)
    refine start_ (n := 9) (S := fun w' => w'.cell? ⟨gb244, 0, none⟩ = some (.int .i64 t235) ∧ w'.cell? ⟨gb244, 1, none⟩ = some (.slice Ao54 t236.length co54) ∧ w'.cell? ⟨gb244, 2, none⟩ = some (.slice Ao55 t239.length co55)) (ds := [8]) (bm 9 0) (by kernel_rfl) rfl (bm0 _) ⟨bc0 BK244, bc1 BK244, bc2 BK244⟩ (fun hK4 => ?_); refine with_tabW spec_l13Any.tab9 spec_l13Any.bits9 (fun HT_ HW_ => ?_)
    generalize w59.drew = w60 at HO238 HO241 BK234 BK244 HI0 HK HB hK4 ⊢
    refine pW 0 34 9 1 HT_ rfl rfl ?_
    refine pW 2 36 9 5 HT_ rfl rfl ?_
    refine pW 3 37 9 13 HT_ rfl rfl ?_
    refine tW 1 35 9 15 HT_ HW_ rfl rfl hK4 ?_
    refine one_ (i := 4) (N := some 38) (bm 9 31) rfl rfl (one_of HT_.o (by kernel_rfl)) (by decide) (fun K hK => ?_)
    refine Kd.R_lit_step (Kd.int .i64) _ 3 ?hg (N := 38) ?hd (xs := ([(-1), 5, 6] : List Int)) (inner := [.int .i64 (-1), .int .i64 5, .int .i64 6]) (ok := fun _ => True) (okp := fun _ => True) ?hr ?hp (fun _ hk => hk) trivial (Below.refl _ _) (Nat.le_refl _) (by simp) ?_; (case hd => rfl); (case hg => rfl); (case hr => first | (go_simp; done) | (go_simp; rfl)); (case hp => exact (Reps.one (show Kd.M (Kd.int .i64) _ _ _ (-1) [.int .i64 (-1)] from rfl) (Reps.one (show Kd.M (Kd.int .i64) _ _ _ 5 [.int .i64 5] from rfl) (Reps.one (show Kd.M (Kd.int .i64) _ _ _ 6 [.int .i64 6] from rfl) (Reps.none _ _)))))
    intro v259 w61 ho62 hb hg_ hnew_
    clear hg_ hnew_
    (first | rw [← Ny258.o] at ho62 | (simp only [Int.reduceToNat] at ho62; rw [← Ny258.o] at ho62))
    replace HO238 := aM (rW (zR HO238) hb)
    replace HO241 := aM (rW (zR HO241) hb)
    have HO260 := aM (rO ho62 (keep_size (w := w) (g := g) (row := none) (zH HK)))
    replace BK234 := kB BK234 hb
    replace BK244 := kB BK244 hb
    replace HK := hkB HK hb
    replace HB := bS HB hb
    replace HI0 := aM (IsS69.below (spec_l13Any.zI69 HI0) hb)
    clear hb ho62
    obtain ⟨Ao63, co63, eo63⟩ := rL HO260.o
    (first | subst eo63 | (obtain ⟨f4_, f5_⟩ := slI eo63; subst f4_; subst f5_))
    refine hK.out _ _ ⟨bc0 BK244, bc1 BK244, bc2 BK244⟩ (fun hK4 => ?_)
    clear hK K
    refine nU 38 ?_
    refine one_ (i := 5) (N := some 39) (bm 9 63) rfl rfl (one_of HT_.o (by kernel_rfl)) (by decide) (fun K hK => ?_)
    refine goes_ Try.func63 (by kernel_rfl) rfl #[.pointer (some ⟨g, 0, none⟩), .slice Ao63 y258.length co63] (by rfl) rfl rfl zG ?_
    with_reducible refine (spec_l1Int.calls g s0_0 t249 t250 _ _ y258 t261 t262 t263 w0 _ ?s1 ?s2 ?s3 ?s4 ?s5 A44.o).mono ?_
    (case s1 => exact spec_l13Any.zI69 HI0)
    (case s2 => exact zB HB)
    (case s3 => exact cU (rQ HO260.o).2.2)
    (case s4 => exact (rQ HO260.o).2.1)
    (case s5 => exact far_slice (IsS69.own_ne HI0.o HO260.o (by decide)))
    rintro e w64 ⟨rfl, hi, hb, hk⟩
    refine ⟨_, rfl, ?_⟩
    replace BK234 := kbT hk BK234 NB234_0
    replace HO238 := IsS69.kR HI0 HO238 hk
    replace HO241 := IsS69.kR HI0 HO241 hk
    replace BK244 := kbT hk BK244 NB244_0
    replace HO260 := IsS69.kR HI0 HO260 hk
    replace HK := hkT HK hk
    replace HB := aM (hb)
    replace HI0 := aM (hi)
    (try clear hb); (try clear hb2); (try clear hk); (try clear hi)
    have p47 : 0 ≤ (t245 : Int) := zD
    have q47 : (t245 : Int) < ((t239.length : Int) : Int) := zD
    obtain ⟨go47, co47, eo47, gb47, gl47, cl47, HG47⟩ := Kd.R_form HO241.o (by omega)
    (first | cases eo47 | (injection eo47 with ea_ en_ ec_; (first | subst ea_ | (injection ea_ with ea_; subst ea_)); subst ec_; clear en_))
    have GB47 := aM gb47
    have GG47 := aM HG47
    clear gb47 gl47 HG47
    obtain ⟨ce47, hcl47, hM47, hcc47, hfr47⟩ := Kd.R_elem HO241.o z46 (t245 : Int) p47 q47
    obtain rfl := k46_openM hM47
    have hx47_0 : World.cell? _ ⟨go47, (t245 : Int).toNat * 4, none⟩ = some (.int .i64 ((rd_T46 t239 t245).f0)) := hcc47 0 _ rfl
    have hx47_1 : World.cell? _ ⟨go47, (t245 : Int).toNat * 4 + 1, none⟩ = some (.bool ((rd_T46 t239 t245).f1)) := hcc47 1 _ rfl
    have hx47_2 : World.cell? _ ⟨go47, (t245 : Int).toNat * 4 + 2, none⟩ = some (.int .i64 ((rd_T46 t239 t245).f2)) := hcc47 2 _ rfl
    have hx47_3 : World.cell? _ ⟨go47, (t245 : Int).toNat * 4 + 3, none⟩ = some (.int .i64 ((rd_T46 t239 t245).f3)) := hcc47 3 _ rfl
    have hf47_0 : World.frozen? _ ⟨go47, (t245 : Int).toNat * 4, none⟩ = false := hfr47 0
    have hf47_1 : World.frozen? _ ⟨go47, (t245 : Int).toNat * 4 + 1, none⟩ = false := hfr47 1
    have hf47_2 : World.frozen? _ ⟨go47, (t245 : Int).toNat * 4 + 2, none⟩ = false := hfr47 2
    have hf47_3 : World.frozen? _ ⟨go47, (t245 : Int).toNat * 4 + 3, none⟩ = false := hfr47 3
    clear hcl47 hcc47 hfr47 hM47
    replace p47 := eq_true p47
    replace q47 := eq_true q47
    have HN0_go47 := aM (show g ≠ go47 from by have h_ := IsS69.own_ne HI0.o HO241.o (by decide); intro e_; exact h_ (by rw [e_]; rfl))
    obtain ⟨ce65, hcl65, hM65, hcc65, hfr65⟩ := Kd.R_elem HO241.o z46 (t245 : Int) (zD) (by have h_ : (t245 : Int) < ((t239.length : Int) : Int) := zD; first | exact h_ | (have e_ := (rQ HO241.o).1; omega) | simpa using h_)
    obtain rfl := k46_openM hM65
    have HP65 := (Kd.R_seg HO241.o (t245 : Int) (zD) (by have h_ : (t245 : Int) < ((t239.length : Int) : Int) := zD; first | exact h_ | (have e_ := (rQ HO241.o).1; omega) | simpa using h_) (seg := [.int .i64 t261]) (j := 2) hcl65 hcc65 (show 3 ≤ 4 from by decide) (x' := (⟨(rd_T46 t239 t245).f0, (rd_T46 t239 t245).f1, t261, (rd_T46 t239 t245).f3⟩ : S46)) (k46_mkM _ _ _ (⟨(rd_T46 t239 t245).f0, (rd_T46 t239 t245).f1, t261, (rd_T46 t239 t245).f3⟩ : S46) ) (fun _ hk => hk)).1
    rw [← Ny264.o] at HP65
    have HQ65 := aM HP65
    clear hcl65 hcc65 hfr65 hM65 HP65
    refine hK.out _ _ ⟨bc0 BK244, bc1 BK244, bc2 BK244⟩ (fun hK4 => ?_)
    clear hK K
    refine nU 39 ?_
    refine pW 6 40 9 127 HT_ rfl rfl ?_
    refine pW 7 41 9 255 HT_ rfl rfl ?_
    refine last_ (i := 8) (N := none) (bm 9 511) rfl rfl (one_of HT_.o (by kernel_rfl)) (by decide) (fun K hK => ?_)
    refine skip_ (w1 := ?_) (by rfl) rfl ?_ ?_
    rotate_left
    ·go_simp
     rfl
    refine hK.out _ _ ?_
    clear hK K
    refine done_ (done_of HT_.o (by kernel_rfl)) ?_
    try clear hK4
    have n0_ : Aside0 (Kd.R Kd.bool 4 (w64.setCell ⟨go47, (t245 : Int).toNat * 4 + 2, none⟩ (.int .i64 t261)) w.heap.size (fun _ => True) (.slice Ao54 t236.length co54) t236) := ⟨by (with_reducible repeat (first | apply rA | apply rN | apply rD)); exact rM (Kd.R_far (p := ⟨go47, (t245 : Int).toNat * 4 + 2, none⟩) (Kd.R_types HO238.o GG47.o (by decide)) (fun _ hk => hk.2) (.int .i64 t261)) (fun _ hk => trivial)⟩
    have n1_ : Aside0 (Kd.R k46 46 (w64.setCell ⟨go47, (t245 : Int).toNat * 4 + 2, none⟩ (.int .i64 t261)) w.heap.size (fun _ => True) (.slice (some ⟨go47, 0, none⟩) t239.length co55) y264) := ⟨zR HQ65⟩
    have n2_ : Aside0 (Kd.R (Kd.int .i64) 3 (w64.setCell ⟨go47, (t245 : Int).toNat * 4 + 2, none⟩ (.int .i64 t261)) w.heap.size (fun _ => True) (.slice Ao63 y258.length co63) y258) := ⟨by (with_reducible repeat (first | apply rA | apply rN | apply rD)); exact rM (Kd.R_far (p := ⟨go47, (t245 : Int).toNat * 4 + 2, none⟩) (Kd.R_types HO260.o GG47.o (by decide)) (fun _ hk => hk.2) (.int .i64 t261)) (fun _ hk => trivial)⟩
    have n3_ : Aside0 ((w64.setCell ⟨go47, (t245 : Int).toNat * 4 + 2, none⟩ (.int .i64 t261)).heap[gb234]? = some (.cells #[.int .i64 0, .slice none 0 0, .slice none 0 0] 27 (0, 0))) := ⟨by (with_reducible repeat (first | apply bN | apply bD | apply bA)); refine bF ?_ (by have h_ := Kd.R_ne HO241.o BK234.o (by decide); intro e_; exact h_ (by rw [e_]; rfl)) _; (with_reducible repeat (first | apply bN | apply bD | apply bA)); exact BK234.o⟩
    have n4_ : Aside0 ((w64.setCell ⟨go47, (t245 : Int).toNat * 4 + 2, none⟩ (.int .i64 t261)).heap[gb244]? = some (.cells #[.int .i64 t235, .slice Ao54 t236.length co54, .slice (some ⟨go47, 0, none⟩) t239.length co55] 27 (0, 0))) := ⟨by (with_reducible repeat (first | apply bN | apply bD | apply bA)); refine bF ?_ (by have h_ := Kd.R_ne HO241.o BK244.o (by decide); intro e_; exact h_ (by rw [e_]; rfl)) _; (with_reducible repeat (first | apply bN | apply bD | apply bA)); exact BK244.o⟩
    have n5_ : Aside0 (IsS69 w0 (w64.setCell ⟨go47, (t245 : Int).toNat * 4 + 2, none⟩ (.int .i64 t261)) g s0_0 t262 t263) := ⟨spec_l13Any.zI69 HI0⟩
    have n6_ : Aside0 (KeepBut w (w64.setCell ⟨go47, (t245 : Int).toNat * 4 + 2, none⟩ (.int .i64 t261)) g none) := ⟨zH HK⟩
    have n7_ : Aside0 (Below w0.heap.size w0 (w64.setCell ⟨go47, (t245 : Int).toNat * 4 + 2, none⟩ (.int .i64 t261))) := ⟨by repeat (first | (with_reducible first | exact HB.o | apply below_alloc | apply pw_below_drewN | apply below_drew1 | refine below_set ?_ (Nat.le_trans HL.o GB47.o) | refine below_set ?_ (IsS69.ge HI0.o) | refine below_set ?_ GE234.o | refine below_set ?_ GE244.o) | exact HB.o)⟩
    (try clear HO238); (try clear HO241); (try clear HO260); (try clear BK234); (try clear BK244); (try clear HI0); (try clear HK); (try clear HB)
    generalize (w64.setCell ⟨go47, (t245 : Int).toNat * 4 + 2, none⟩ (.int .i64 t261)) = w66 at n0_ n1_ n2_ n3_ n4_ n5_ n6_ n7_ ⊢
    have HO238 := n0_
    have HO241 := n1_
    have HO260 := n2_
    have BK234 := n3_
    have BK244 := n4_
    have HI0 := n5_
    have HK := n6_
    have HB := n7_
    clear n0_ n1_ n2_ n3_ n4_ n5_ n6_ n7_
    obtain ⟨z67_0, z67_1, z67_2, f67_0, f67_1, f67_2⟩ := bq3 BK244
    have hnb68 := NB234_0.o
    have hnc68 := NB0_234.o
    obtain ⟨z69_0, z69_1, z69_2, f69_0, f69_1, f69_2⟩ := bq3 BK234
    try go_wp2
    refine bodyPost_ret (results_cell_row rfl _ _ gb234 27 #[.int .i64 t235, .slice Ao54 t236.length co54, .slice (some ⟨go47, 0, none⟩) t239.length co55] (0, 0) _ rfl (by (with_reducible repeat (first | apply bN | apply bD | apply bA)); refine bP (cs := #[.int .i64 t235, .slice Ao54 t236.length co54, .slice none 0 0]) ?_ 2 _ rfl; (with_reducible repeat (first | apply bN | apply bD | apply bA)); refine bP (cs := #[.int .i64 t235, .slice none 0 0, .slice none 0 0]) ?_ 1 _ rfl; (with_reducible repeat (first | apply bN | apply bD | apply bA)); refine bP (cs := #[.int .i64 0, .slice none 0 0, .slice none 0 0]) ?_ 0 _ rfl; (with_reducible repeat (first | apply bN | apply bD | apply bA)); exact BK234.o) Try.underlying27 rfl (by kernel_rfl)) rfl ?_
    exact ⟨_, _, zE, rM (rB HO238 BK234) (fun _ hk => trivial), rM (rB HO241 BK234) (fun _ hk => trivial), spec_l13Any.zI69 HI0, zB HB, zH HK⟩
   ·rw [if_neg c43] at H
    have c43b0 : (t248 == 1) = false := beq_eq_false_iff_ne.mpr c43
    have c43b1 : (t248 != 1) = true := bne_iff_ne.mpr c43
    by_cases c70 : t248 = 2
    ·rw [if_pos c70] at H
     have c70b0 : (t248 == 2) = true := beq_iff_eq.mpr c70
     have c70b1 : (t248 != 2) = false := bne_eq_false_iff_eq.mpr c70
     clear c70
     obtain ⟨c71, H⟩ := ifS H
     have c71b0 : decide (0 ≤ t245) = true := dT c71
     clear c71
     obtain ⟨c72, H⟩ := ifS H
     have c72b0 : decide (t245 < (t239.length : Int)) = true := dT c72
     clear c72
     obtain ⟨c73, H⟩ := ifS H
     have LMc73 := aM c73
     clear c73
     obtain ⟨y266, hy266⟩ : ∃ y_ : List (S46), y_ = (t239 ++ [(⟨(rd_T46 t239 t245).f0, (rd_T46 t239 t245).f1, (rd_T46 t239 t245).f2, (rd_T46 t239 t245).f3⟩ : S46)]) := ⟨_, rfl⟩
     replace H : (some (t235, t236, y266, t249, t250)) = some (r1, r2, r3, r4, r5) := by first | (rw [hy266]; with_reducible exact H) | (rw [hy266]; exact H) | exact H
     have Ny266 := aM hy266
     clear hy266
     simp only [Option.some.injEq, Prod.mk.injEq] at H
     obtain ⟨rfl, rfl, rfl, rfl, rfl⟩ := H
     go_enter Try.func55, Try.ntmps55
     try go_wp2_with (first | ((with_reducible refine gD (N := 2) rfl ?_); refine box_event ?hg (N := 2) ?hd (cs := #[.int .i64 0, .slice none 0 0, .slice none 0 0]) (t := 27) ?hr ?_; (case hd => rfl); (case hg => rfl); (case hr => first | (go_simp; done) | (go_simp; rfl)); intro gb234 hg w74 hbox hb; replace HB := bS HB hb; have BK234 := aM (hbox); have GW234 := gK HK hg; have GE234 := gL HW0 GW234; replace HK := hkB HK hb; have NB0_234 := IsS69.nL HI0 hg; have NB234_0 := IsS69.nR HI0 hg; replace HI0 := aM (IsS69.below (spec_l13Any.zI69 HI0) hb); clear hb hbox hg) | ((with_reducible refine gC (f := 32) rfl ?_); refine goesL_ (some 7) rfl rfl Try.func32 (by kernel_rfl) rfl #[.pointer (some ⟨g, 0, none⟩)] rfl zG ?_; (with_reducible refine (spec_l13Draw.calls k g s0_0 s0_1 s0_2 t235 t236 t239 t242 t243 w0 _ ?s1 ?s2 A2.o).mono ?_); (case s1 => exact spec_l13Any.zI69 HI0); (case s2 => exact zB HB); rintro e w75 ⟨v237, v240, rfl, ho0, ho1, hi, hb, hk⟩; refine ⟨_, rfl, ?_⟩; replace BK234 := kbT hk BK234 NB234_0; have HO238 := aM (rO ho0 (keep_size (w := w) (g := g) (row := none) (zH HK))); have HO241 := aM (rO ho1 (keep_size (w := w) (g := g) (row := none) (zH HK))); replace HK := hkT HK hk; replace HB := aM (hb); replace HI0 := aM (hi); (try clear hb); (try clear ho0); (try clear ho1)) | ((with_reducible refine gD (N := 3) rfl ?_); refine box_event ?hg (N := 3) ?hd (cs := #[.int .i64 0, .slice none 0 0, .slice none 0 0]) (t := 27) ?hr ?_; (case hd => rfl); (case hg => rfl); (case hr => first | (go_simp; done) | (go_simp; rfl)); intro gb244 hg w76 hbox hb; replace HO238 := aM (rW (zR HO238) hb); replace HO241 := aM (rW (zR HO241) hb); replace HB := bS HB hb; have BK244 := aM (hbox); have GW244 := gK HK hg; have GE244 := gL HW0 GW244; replace HK := hkB HK hb; have NB234_244 := nL BK234 hg; have NB244_234 := nR BK234 hg; replace BK234 := kB BK234 hb; have NB0_244 := IsS69.nL HI0 hg; have NB244_0 := IsS69.nR HI0 hg; replace HI0 := aM (IsS69.below (spec_l13Any.zI69 HI0) hb); clear hb hbox hg; have hnb77 := NB244_234.o; have hnc77 := NB234_244.o; have hnb78 := NB244_0.o; have hnc78 := NB0_244.o; obtain ⟨z79_0, z79_1, z79_2, f79_0, f79_1, f79_2⟩ := bq3 BK244; obtain ⟨Ao80, co80, eo80⟩ := rL HO238.o; subst eo80; obtain ⟨Ao81, co81, eo81⟩ := rL HO241.o; subst eo81) | ((with_reducible refine gate_store (t := 27) (p := 3) rfl ?_); refine store_event (t := 27) (p := 3) (v := ?vo_w82) (w1 := (((w76.setCell ⟨gb244, 0, none⟩ (.int .i64 t235)).setCell ⟨gb244, 1, none⟩ (.slice Ao80 t236.length co80)).setCell ⟨gb244, 2, none⟩ (.slice Ao81 t239.length co81))) ?hg ?ho ?hn ?hr ?_; (case ho => rfl); (case hg => rfl); (case hn => rfl); (case hr => first | (go_simp; done) | (go_simp; rfl)); intro w82 hw; replace HO238 : Aside0 (Kd.R Kd.bool 4 w82 w.heap.size (fun _ => True) (.slice Ao80 t236.length co80) t236) := ⟨(by rw [hw]; exact (rM (rB HO238 BK244) (fun _ hk => trivial)))⟩; replace HO241 : Aside0 (Kd.R k46 46 w82 w.heap.size (fun _ => True) (.slice Ao81 t239.length co81) t239) := ⟨(by rw [hw]; exact (rM (rB HO241 BK244) (fun _ hk => trivial)))⟩; replace BK234 : Aside0 (w82.heap[gb234]? = some (.cells #[.int .i64 0, .slice none 0 0, .slice none 0 0] 27 (0, 0))) := ⟨(by rw [hw]; exact (kF BK234))⟩; replace BK244 : Aside0 (w82.heap[gb244]? = some (.cells #[.int .i64 t235, .slice Ao80 t236.length co80, .slice Ao81 t239.length co81] 27 (0, 0))) := ⟨(by rw [hw]; exact (by (with_reducible repeat (first | apply bN | apply bD | apply bA)); refine bP (cs := #[.int .i64 t235, .slice Ao80 t236.length co80, .slice none 0 0]) ?_ 2 _ rfl; (with_reducible repeat (first | apply bN | apply bD | apply bA)); refine bP (cs := #[.int .i64 t235, .slice none 0 0, .slice none 0 0]) ?_ 1 _ rfl; (with_reducible repeat (first | apply bN | apply bD | apply bA)); refine bP (cs := #[.int .i64 0, .slice none 0 0, .slice none 0 0]) ?_ 0 _ rfl; (with_reducible repeat (first | apply bN | apply bD | apply bA)); exact BK244.o))⟩; replace HK : Aside0 (KeepBut w w82 g none) := ⟨(by rw [hw]; exact (zH HK))⟩; replace HB : Aside0 (Below w0.heap.size w0 w82) := ⟨(by rw [hw]; exact (zB HB))⟩; replace HI0 : Aside0 (IsS69 w0 w82 g s0_0 t242 t243) := ⟨(by rw [hw]; exact (spec_l13Any.zI69 HI0))⟩; clear hw; obtain ⟨z83_0, z83_1, z83_2, f83_0, f83_1, f83_2⟩ := bq3 BK244) | ((with_reducible refine gC (f := 33) rfl ?_); refine goesL_ (some 17) rfl rfl Try.func33 (by kernel_rfl) rfl #[.pointer (some ⟨g, 0, none⟩), .int .i64 (t239.length : Int)] rfl zG ?_; (with_reducible refine (spec_l1Below.calls g s0_0 t242 t243 (t239.length : Int) t245 t246 t247 w0 _ ?s1 ?s2 A14.o).mono ?_); (case s1 => exact spec_l13Any.zI69 HI0); (case s2 => exact zB HB); rintro e w84 ⟨rfl, hi, hb, hk⟩; refine ⟨_, rfl, ?_⟩; replace BK234 := kbT hk BK234 NB234_0; replace HO238 := IsS69.kR HI0 HO238 hk; replace HO241 := IsS69.kR HI0 HO241 hk; replace BK244 := kbT hk BK244 NB244_0; replace HK := hkT HK hk; replace HB := aM (hb); replace HI0 := aM (hi); (try clear hb)) | ((with_reducible refine gC (f := 33) rfl ?_); refine goesL_ (some 19) rfl rfl Try.func33 (by kernel_rfl) rfl #[.pointer (some ⟨g, 0, none⟩), .int .i64 12] rfl zG ?_; (with_reducible refine (spec_l1Below.calls g s0_0 t246 t247 12 t248 t249 t250 w0 _ ?s1 ?s2 A15.o).mono ?_); (case s1 => exact spec_l13Any.zI69 HI0); (case s2 => exact zB HB); rintro e w85 ⟨rfl, hi, hb, hk⟩; refine ⟨_, rfl, ?_⟩; replace BK234 := kbT hk BK234 NB234_0; replace HO238 := IsS69.kR HI0 HO238 hk; replace HO241 := IsS69.kR HI0 HO241 hk; replace BK244 := kbT hk BK244 NB244_0; replace HK := hkT HK hk; replace HB := aM (hb); replace HI0 := aM (hi); (try clear hb)))
     replace HO238 := aM (rD HO238.o)
     replace HO241 := aM (rD HO241.o)
     replace BK234 := aM (bD BK234.o)
     replace BK244 := aM (bD BK244.o)
     replace HI0 := aM (IsS69.drew HI0.o)
     replace HK := aM (keep_drew HK.o)
     replace HB := aM (below_drew1 HB.o)
     have p265 : 0 ≤ (t245 : Int) := zD
     have q265 : t245 < (t239.length : Int) := zD
     obtain ⟨ad265, e265, hx265_0, hx265_1, hx265_2, hx265_3⟩ := at_T46 (rQ HO241.o).2.2 t245 p265 q265
     cases e265
     replace p265 := eq_true p265
     replace q265 := eq_true q265
     refine start_ (n := 11) (S := fun w' => w'.cell? ⟨gb244, 0, none⟩ = some (.int .i64 t235) ∧ w'.cell? ⟨gb244, 1, none⟩ = some (.slice Ao80 t236.length co80) ∧ w'.cell? ⟨gb244, 2, none⟩ = some (.slice (some ad265) t239.length co81) ∧ w'.cell? (ad265.add ((t245).toNat * 4)) = some (.int .i64 ((rd_T46 t239 t245).f0)) ∧ w'.cell? ⟨(ad265.add ((t245).toNat * 4)).block, (ad265.add ((t245).toNat * 4)).off + 1, none⟩ = some (.bool ((rd_T46 t239 t245).f1)) ∧ w'.cell? ⟨(ad265.add ((t245).toNat * 4)).block, (ad265.add ((t245).toNat * 4)).off + 2, none⟩ = some (.int .i64 ((rd_T46 t239 t245).f2)) ∧ w'.cell? ⟨(ad265.add ((t245).toNat * 4)).block, (ad265.add ((t245).toNat * 4)).off + 3, none⟩ = some (.int .i64 ((rd_T46 t239 t245).f3))) (ds := [8, 10]) (bm 11 0) (by kernel_rfl) rfl (bm0 _) ⟨bc0 BK244, bc1 BK244, bc2 BK244, hx265_0, hx265_1, hx265_2, hx265_3⟩ (fun hK4 => ?_); refine with_tabW spec_l13Any.tab11 spec_l13Any.bits11 (fun HT_ HW_ => ?_)
     generalize w85.drew = w86 at HO238 HO241 BK234 BK244 HI0 HK HB hx265_0 hx265_1 hx265_2 hx265_3 hK4 ⊢
     refine pW 0 44 11 1 HT_ rfl rfl ?_
     refine pW 2 46 11 5 HT_ rfl rfl ?_
     refine pW 4 48 11 21 HT_ rfl rfl ?_
     refine tW 1 45 11 23 HT_ HW_ rfl rfl hK4 ?_
     refine tW 3 47 11 31 HT_ HW_ rfl rfl hK4 ?_
     refine pW 5 49 11 63 HT_ rfl rfl ?_
     refine tW 6 50 11 127 HT_ HW_ rfl rfl hK4 ?_
     refine one_ (i := 7) (N := some 51) (bm 11 255) rfl rfl (one_of HT_.o (by kernel_rfl)) (by decide) (fun K hK => ?_)
     refine value_ (w1 := ?_) (v := ?_) (by rfl) rfl ?_ ?_
     rotate_left 2
     ·go_simp
      constructor
      ·rfl
      ·rfl
     refine hK.out _ _ ⟨(blk_cell (bA BK244.o _) 0).trans rfl, (blk_cell (bA BK244.o _) 1).trans rfl, (blk_cell (bA BK244.o _) 2).trans rfl, (World.cell?_alloc_lt _ _ _ (wL _ _ (hK4.2.2.2.1))).trans (hK4.2.2.2.1), (World.cell?_alloc_lt _ _ _ (wL _ _ (hK4.2.2.2.2.1))).trans (hK4.2.2.2.2.1), (World.cell?_alloc_lt _ _ _ (wL _ _ (hK4.2.2.2.2.2.1))).trans (hK4.2.2.2.2.2.1), (World.cell?_alloc_lt _ _ _ (wL _ _ (hK4.2.2.2.2.2.2))).trans (hK4.2.2.2.2.2.2)⟩ (fun hK4 => ?_)
     clear hK K
     refine nU 51 ?_
     refine last_ (i := 8) (N := some 52) (bm 11 511) rfl rfl (one_of HT_.o (by kernel_rfl)) (by decide) (fun K hK => ?_)
     refine Kd.R_append_step k46 w.heap.size (by rfl) (.tmp 45) (.tmp 51) 25 46 (.agg #[(.int .i64 0), (.bool false), (.int .i64 0), (.int .i64 0)]) 32 rfl Try.underlying25 info46 rfl (by decide) (by omega) (.slice (some ad265) t239.length co81) t239 (⟨(rd_T46 t239 t245).f0, (rd_T46 t239 t245).f1, (rd_T46 t239 t245).f2, (rd_T46 t239 t245).f3⟩ : S46) [.int .i64 ((rd_T46 t239 t245).f0), .bool ((rd_T46 t239 t245).f1), .int .i64 ((rd_T46 t239 t245).f2), .int .i64 ((rd_T46 t239 t245).f3)] (fun _ => True) (fun _ => False) rfl rfl ?aP (fun _ hk => hk.elim) ?aF ?aO (Below.refl _ _) ?aS ?aL ?_
     (case aP => exact k46_mkM _ _ _ (⟨(rd_T46 t239 t245).f0, (rd_T46 t239 t245).f1, (rd_T46 t239 t245).f2, (rd_T46 t239 t245).f3⟩ : S46))
     (case aF => exact (fun _ _ => trivial))
     (case aO => exact (zR HO241))
     (case aS => exact (keep_size (w := w) (g := g) (row := none) (zH HK)))
     (case aL => have := LMc73.o; omega)
     intro v267 w87 ho hb hg hat
     rw [← Ny266.o] at ho
     replace BK234 := aM (blk_grown (g := gb234) (o := .cells #[.int .i64 0, .slice none 0 0, .slice none 0 0] 27 (0, 0)) (zK BK234) hg (Kd.R_ne HO241.o BK234.o (by decide)))
     replace HO238 := aM (Kd.R_over' (zR HO238) (Kd.R_typed (zR HO241)) (by decide) hg)
     replace BK244 := aM (blk_grown (g := gb244) (o := .cells #[.int .i64 t235, .slice Ao80 t236.length co80, .slice (some ad265) t239.length co81] 27 (0, 0)) (zK BK244) hg (Kd.R_ne HO241.o BK244.o (by decide)))
     replace HB := aM (below_weaken (zB HB) HL.o hb)
     replace HI0 := aM (IsS69.grown (spec_l13Any.zI69 HI0) hg (IsS69.own_ne HI0.o HO241.o (by decide)))
     replace HK := aM (KeepBut.trans (zH HK) (KeepBut.of_grown hg g) (Kd.R_base2 HO241.o))
     have HO268 := aM (ho)
     clear HO241
     clear ho hb hg hat
     obtain ⟨Ao88, co88, eo88⟩ := rL HO268.o
     (first | subst eo88 | (obtain ⟨f4_, f5_⟩ := slI eo88; subst f4_; subst f5_))
     refine hK.out _ _ ?_
     clear hK K
     refine nU 52 ?_
     refine pW 9 53 11 1023 HT_ rfl rfl ?_
     refine last_ (i := 10) (N := none) (bm 11 2047) rfl rfl (one_of HT_.o (by kernel_rfl)) (by decide) (fun K hK => ?_)
     have hs89 : w87.cell? ⟨gb244, 2, none⟩ = some (.slice (some ad265) t239.length co81) := bc2 BK244
     have hfs89 := bf BK244 2
     have hns89_0 := NB234_244.o
     have hms89_0 := NB244_234.o
     refine skip_ (w1 := ?_) (by rfl) rfl ?_ ?_
     rotate_left
     ·go_simp
      rfl
     refine hK.out _ _ ?_
     clear hK K
     refine done_ (done_of HT_.o (by kernel_rfl)) ?_
     try clear hK4
     obtain ⟨z90_0, z90_1, z90_2, f90_0, f90_1, f90_2⟩ := bq3 BK244
     have hnb91 := NB234_0.o
     have hnc91 := NB0_234.o
     obtain ⟨z92_0, z92_1, z92_2, f92_0, f92_1, f92_2⟩ := bq3 BK234
     try go_wp2
     refine bodyPost_ret (results_cell_row rfl _ _ gb234 27 #[.int .i64 t235, .slice Ao80 t236.length co80, .slice Ao88 y266.length co88] (0, 0) _ rfl (by (with_reducible repeat (first | apply bN | apply bD | apply bA)); refine bP (cs := #[.int .i64 t235, .slice Ao80 t236.length co80, .slice none 0 0]) ?_ 2 _ rfl; (with_reducible repeat (first | apply bN | apply bD | apply bA)); refine bP (cs := #[.int .i64 t235, .slice none 0 0, .slice none 0 0]) ?_ 1 _ rfl; (with_reducible repeat (first | apply bN | apply bD | apply bA)); refine bP (cs := #[.int .i64 0, .slice none 0 0, .slice none 0 0]) ?_ 0 _ rfl; (with_reducible repeat (first | apply bN | apply bD | apply bA)); refine bF ?_ NB234_244.o _; (with_reducible repeat (first | apply bN | apply bD | apply bA)); exact BK234.o) Try.underlying27 rfl (by kernel_rfl)) rfl ?_
     exact ⟨_, _, zE, rM (rB2 HO238 BK244 BK234) (fun _ hk => trivial), rM (rB2 HO268 BK244 BK234) (fun _ hk => trivial), spec_l13Any.zI69 HI0, zB HB, zH HK⟩
    ·rw [if_neg c70] at H
     have c70b0 : (t248 == 2) = false := beq_eq_false_iff_ne.mpr c70
     have c70b1 : (t248 != 2) = true := bne_iff_ne.mpr c70
     by_cases c93 : t248 = 3
     ·rw [if_pos c93] at H
      have c93b0 : (t248 == 3) = true := beq_iff_eq.mpr c93
      have c93b1 : (t248 != 3) = false := bne_eq_false_iff_eq.mpr c93
      clear c93
      obtain ⟨c94, H⟩ := ifS H
      have c94b0 : decide (0 ≤ t245) = true := dT c94
      clear c94
      obtain ⟨c95, H⟩ := ifS H
      have c95b0 : decide (t245 < (t239.length : Int)) = true := dT c95
      clear c95
      obtain ⟨c96, H⟩ := ifS H
      have LMc96 := aM c96
      clear c96
      obtain ⟨y271, hy271⟩ : ∃ y_ : List (S46), y_ = (t239 ++ [(⟨(rd_T46 t239 t245).f0, !((rd_T46 t239 t245).f1), (rd_T46 t239 t245).f2, (rd_T46 t239 t245).f3⟩ : S46)]) := ⟨_, rfl⟩
      replace H : (some (t235, t236, y271, t249, t250)) = some (r1, r2, r3, r4, r5) := by first | (rw [hy271]; with_reducible exact H) | (rw [hy271]; exact H) | exact H
      have Ny271 := aM hy271
      clear hy271
      simp only [Option.some.injEq, Prod.mk.injEq] at H
      obtain ⟨rfl, rfl, rfl, rfl, rfl⟩ := H
      go_enter Try.func55, Try.ntmps55
      go_wp2_with (first | ((with_reducible refine gD (N := 2) rfl ?_); refine box_event ?hg (N := 2) ?hd (cs := #[.int .i64 0, .slice none 0 0, .slice none 0 0]) (t := 27) ?hr ?_; (case hd => rfl); (case hg => rfl); (case hr => first | (go_simp; done) | (go_simp; rfl)); intro gb234 hg w97 hbox hb; replace HB := bS HB hb; have BK234 := aM (hbox); have GW234 := gK HK hg; have GE234 := gL HW0 GW234; replace HK := hkB HK hb; have NB0_234 := IsS69.nL HI0 hg; have NB234_0 := IsS69.nR HI0 hg; replace HI0 := aM (IsS69.below (spec_l13Any.zI69 HI0) hb); clear hb hbox hg) | ((with_reducible refine gC (f := 32) rfl ?_); refine goesL_ (some 7) rfl rfl Try.func32 (by kernel_rfl) rfl #[.pointer (some ⟨g, 0, none⟩)] rfl zG ?_; (with_reducible refine (spec_l13Draw.calls k g s0_0 s0_1 s0_2 t235 t236 t239 t242 t243 w0 _ ?s1 ?s2 A2.o).mono ?_); (case s1 => exact spec_l13Any.zI69 HI0); (case s2 => exact zB HB); rintro e w98 ⟨v237, v240, rfl, ho0, ho1, hi, hb, hk⟩; refine ⟨_, rfl, ?_⟩; replace BK234 := kbT hk BK234 NB234_0; have HO238 := aM (rO ho0 (keep_size (w := w) (g := g) (row := none) (zH HK))); have HO241 := aM (rO ho1 (keep_size (w := w) (g := g) (row := none) (zH HK))); replace HK := hkT HK hk; replace HB := aM (hb); replace HI0 := aM (hi); (try clear hb); (try clear ho0); (try clear ho1)) | ((with_reducible refine gD (N := 3) rfl ?_); refine box_event ?hg (N := 3) ?hd (cs := #[.int .i64 0, .slice none 0 0, .slice none 0 0]) (t := 27) ?hr ?_; (case hd => rfl); (case hg => rfl); (case hr => first | (go_simp; done) | (go_simp; rfl)); intro gb244 hg w99 hbox hb; replace HO238 := aM (rW (zR HO238) hb); replace HO241 := aM (rW (zR HO241) hb); replace HB := bS HB hb; have BK244 := aM (hbox); have GW244 := gK HK hg; have GE244 := gL HW0 GW244; replace HK := hkB HK hb; have NB234_244 := nL BK234 hg; have NB244_234 := nR BK234 hg; replace BK234 := kB BK234 hb; have NB0_244 := IsS69.nL HI0 hg; have NB244_0 := IsS69.nR HI0 hg; replace HI0 := aM (IsS69.below (spec_l13Any.zI69 HI0) hb); clear hb hbox hg; have hnb100 := NB244_234.o; have hnc100 := NB234_244.o; have hnb101 := NB244_0.o; have hnc101 := NB0_244.o; obtain ⟨z102_0, z102_1, z102_2, f102_0, f102_1, f102_2⟩ := bq3 BK244; obtain ⟨Ao103, co103, eo103⟩ := rL HO238.o; subst eo103; obtain ⟨Ao104, co104, eo104⟩ := rL HO241.o; subst eo104) | ((with_reducible refine gate_store (t := 27) (p := 3) rfl ?_); refine store_event (t := 27) (p := 3) (v := ?vo_w105) (w1 := (((w99.setCell ⟨gb244, 0, none⟩ (.int .i64 t235)).setCell ⟨gb244, 1, none⟩ (.slice Ao103 t236.length co103)).setCell ⟨gb244, 2, none⟩ (.slice Ao104 t239.length co104))) ?hg ?ho ?hn ?hr ?_; (case ho => rfl); (case hg => rfl); (case hn => rfl); (case hr => first | (go_simp; done) | (go_simp; rfl)); intro w105 hw; replace HO238 : Aside0 (Kd.R Kd.bool 4 w105 w.heap.size (fun _ => True) (.slice Ao103 t236.length co103) t236) := ⟨(by rw [hw]; exact (rM (rB HO238 BK244) (fun _ hk => trivial)))⟩; replace HO241 : Aside0 (Kd.R k46 46 w105 w.heap.size (fun _ => True) (.slice Ao104 t239.length co104) t239) := ⟨(by rw [hw]; exact (rM (rB HO241 BK244) (fun _ hk => trivial)))⟩; replace BK234 : Aside0 (w105.heap[gb234]? = some (.cells #[.int .i64 0, .slice none 0 0, .slice none 0 0] 27 (0, 0))) := ⟨(by rw [hw]; exact (kF BK234))⟩; replace BK244 : Aside0 (w105.heap[gb244]? = some (.cells #[.int .i64 t235, .slice Ao103 t236.length co103, .slice Ao104 t239.length co104] 27 (0, 0))) := ⟨(by rw [hw]; exact (by (with_reducible repeat (first | apply bN | apply bD | apply bA)); refine bP (cs := #[.int .i64 t235, .slice Ao103 t236.length co103, .slice none 0 0]) ?_ 2 _ rfl; (with_reducible repeat (first | apply bN | apply bD | apply bA)); refine bP (cs := #[.int .i64 t235, .slice none 0 0, .slice none 0 0]) ?_ 1 _ rfl; (with_reducible repeat (first | apply bN | apply bD | apply bA)); refine bP (cs := #[.int .i64 0, .slice none 0 0, .slice none 0 0]) ?_ 0 _ rfl; (with_reducible repeat (first | apply bN | apply bD | apply bA)); exact BK244.o))⟩; replace HK : Aside0 (KeepBut w w105 g none) := ⟨(by rw [hw]; exact (zH HK))⟩; replace HB : Aside0 (Below w0.heap.size w0 w105) := ⟨(by rw [hw]; exact (zB HB))⟩; replace HI0 : Aside0 (IsS69 w0 w105 g s0_0 t242 t243) := ⟨(by rw [hw]; exact (spec_l13Any.zI69 HI0))⟩; clear hw; obtain ⟨z106_0, z106_1, z106_2, f106_0, f106_1, f106_2⟩ := bq3 BK244) | ((with_reducible refine gC (f := 33) rfl ?_); refine goesL_ (some 17) rfl rfl Try.func33 (by kernel_rfl) rfl #[.pointer (some ⟨g, 0, none⟩), .int .i64 (t239.length : Int)] rfl zG ?_; (with_reducible refine (spec_l1Below.calls g s0_0 t242 t243 (t239.length : Int) t245 t246 t247 w0 _ ?s1 ?s2 A14.o).mono ?_); (case s1 => exact spec_l13Any.zI69 HI0); (case s2 => exact zB HB); rintro e w107 ⟨rfl, hi, hb, hk⟩; refine ⟨_, rfl, ?_⟩; replace BK234 := kbT hk BK234 NB234_0; replace HO238 := IsS69.kR HI0 HO238 hk; replace HO241 := IsS69.kR HI0 HO241 hk; replace BK244 := kbT hk BK244 NB244_0; replace HK := hkT HK hk; replace HB := aM (hb); replace HI0 := aM (hi); (try clear hb)) | ((with_reducible refine gC (f := 33) rfl ?_); refine goesL_ (some 19) rfl rfl Try.func33 (by kernel_rfl) rfl #[.pointer (some ⟨g, 0, none⟩), .int .i64 12] rfl zG ?_; (with_reducible refine (spec_l1Below.calls g s0_0 t246 t247 12 t248 t249 t250 w0 _ ?s1 ?s2 A15.o).mono ?_); (case s1 => exact spec_l13Any.zI69 HI0); (case s2 => exact zB HB); rintro e w108 ⟨rfl, hi, hb, hk⟩; refine ⟨_, rfl, ?_⟩; replace BK234 := kbT hk BK234 NB234_0; replace HO238 := IsS69.kR HI0 HO238 hk; replace HO241 := IsS69.kR HI0 HO241 hk; replace BK244 := kbT hk BK244 NB244_0; replace HK := hkT HK hk; replace HB := aM (hb); replace HI0 := aM (hi); (try clear hb); obtain ⟨z109_0, z109_1, z109_2, f109_0, f109_1, f109_2⟩ := bq3 BK244; have p269 : 0 ≤ (t245 : Int) := zD; have q269 : t245 < (t239.length : Int) := zD; obtain ⟨ad269, e269, hx269_0, hx269_1, hx269_2, hx269_3⟩ := at_T46 (rQ HO241.o).2.2 t245 p269 q269; cases e269; replace p269 := eq_true p269; replace q269 := eq_true q269) | ((with_reducible refine gD (N := 5) rfl ?_); refine box_event ?hg (N := 5) ?hd (cs := #[.int .i64 0, .bool false, .int .i64 0, .int .i64 0]) (t := 46) ?hr ?_; (case hd => rfl); (case hg => rfl); (case hr => first | (go_simp; done) | (go_simp; rfl)); intro gb270 hg w110 hbox hb; replace HO238 := aM (rW (zR HO238) hb); replace HO241 := aM (rW (Kd.R_elderB (zR HO241) gb270 (Nat.le_of_eq hg.symm)) hb); replace HB := bS HB hb; have BK270 := aM (hbox); have GW270 := gK HK hg; have GE270 := gL HW0 GW270; replace HK := hkB HK hb; have NB234_270 := nL BK234 hg; have NB270_234 := nR BK234 hg; replace BK234 := kB BK234 hb; have NB244_270 := nL BK244 hg; have NB270_244 := nR BK244 hg; replace BK244 := kB BK244 hb; have NB0_270 := IsS69.nL HI0 hg; have NB270_0 := IsS69.nR HI0 hg; replace HI0 := aM (IsS69.below (spec_l13Any.zI69 HI0) hb); clear hb hbox hg; have hnb111 := NB270_234.o; have hnc111 := NB234_270.o; have hnb112 := NB270_244.o; have hnc112 := NB244_270.o; have hnb113 := NB270_0.o; have hnc113 := NB0_270.o; obtain ⟨z114_0, z114_1, z114_2, z114_3, f114_0, f114_1, f114_2, f114_3⟩ := bq4 BK270) | ((with_reducible refine gate_store (t := 46) (p := 5) rfl ?_); refine store_event (t := 46) (p := 5) (v := ?vo_w115) (w1 := ((((w110.setCell ⟨gb270, 0, none⟩ (.int .i64 ((rd_T46 t239 t245).f0))).setCell ⟨gb270, 1, none⟩ (.bool ((rd_T46 t239 t245).f1))).setCell ⟨gb270, 2, none⟩ (.int .i64 ((rd_T46 t239 t245).f2))).setCell ⟨gb270, 3, none⟩ (.int .i64 ((rd_T46 t239 t245).f3)))) ?hg ?ho ?hn ?hr ?_; (case ho => rfl); (case hg => rfl); (case hn => rfl); (case hr => first | (go_simp; done) | (go_simp; rfl)); intro w115 hw; replace HO238 : Aside0 (Kd.R Kd.bool 4 w115 w.heap.size (fun _ => True) (.slice Ao103 t236.length co103) t236) := ⟨(by rw [hw]; exact (rM (rB HO238 BK270) (fun _ hk => trivial)))⟩; replace HO241 : Aside0 (Kd.R k46 46 w115 w.heap.size (fun k_ => k_ ≠ gb270) (.slice (some ad269) t239.length co104) t239) := ⟨(by rw [hw]; exact (by (with_reducible repeat (first | apply rA | apply rN | apply rD)); exact rM (Kd.R_far (p := ⟨gb270, 3, none⟩) (Kd.R_far (p := ⟨gb270, 2, none⟩) (Kd.R_far (p := ⟨gb270, 1, none⟩) (Kd.R_far (p := ⟨gb270, 0, none⟩) (rM HO241.o (fun k_ hk => (⟨hk, hk.2⟩ : _ ∧ k_ ≠ gb270))) (fun _ hk => hk.2) (.int .i64 ((rd_T46 t239 t245).f0))) (fun _ hk => hk.2) (.bool ((rd_T46 t239 t245).f1))) (fun _ hk => hk.2) (.int .i64 ((rd_T46 t239 t245).f2))) (fun _ hk => hk.2) (.int .i64 ((rd_T46 t239 t245).f3))) (fun _ hk => hk.1.2)))⟩; replace BK234 : Aside0 (w115.heap[gb234]? = some (.cells #[.int .i64 0, .slice none 0 0, .slice none 0 0] 27 (0, 0))) := ⟨(by rw [hw]; exact (kF BK234))⟩; replace BK244 : Aside0 (w115.heap[gb244]? = some (.cells #[.int .i64 t235, .slice Ao103 t236.length co103, .slice (some ad269) t239.length co104] 27 (0, 0))) := ⟨(by rw [hw]; exact (kF BK244))⟩; replace BK270 : Aside0 (w115.heap[gb270]? = some (.cells #[.int .i64 ((rd_T46 t239 t245).f0), .bool ((rd_T46 t239 t245).f1), .int .i64 ((rd_T46 t239 t245).f2), .int .i64 ((rd_T46 t239 t245).f3)] 46 (0, 0))) := ⟨(by rw [hw]; exact (by (with_reducible repeat (first | apply bN | apply bD | apply bA)); refine bP (cs := #[.int .i64 ((rd_T46 t239 t245).f0), .bool ((rd_T46 t239 t245).f1), .int .i64 ((rd_T46 t239 t245).f2), .int .i64 0]) ?_ 3 _ rfl; (with_reducible repeat (first | apply bN | apply bD | apply bA)); refine bP (cs := #[.int .i64 ((rd_T46 t239 t245).f0), .bool ((rd_T46 t239 t245).f1), .int .i64 0, .int .i64 0]) ?_ 2 _ rfl; (with_reducible repeat (first | apply bN | apply bD | apply bA)); refine bP (cs := #[.int .i64 ((rd_T46 t239 t245).f0), .bool false, .int .i64 0, .int .i64 0]) ?_ 1 _ rfl; (with_reducible repeat (first | apply bN | apply bD | apply bA)); refine bP (cs := #[.int .i64 0, .bool false, .int .i64 0, .int .i64 0]) ?_ 0 _ rfl; (with_reducible repeat (first | apply bN | apply bD | apply bA)); exact BK270.o))⟩; replace HK : Aside0 (KeepBut w w115 g none) := ⟨(by rw [hw]; exact (zH HK))⟩; replace HB : Aside0 (Below w0.heap.size w0 w115) := ⟨(by rw [hw]; exact (zB HB))⟩; replace HI0 : Aside0 (IsS69 w0 w115 g s0_0 t249 t250) := ⟨(by rw [hw]; exact (spec_l13Any.zI69 HI0))⟩; clear hw; obtain ⟨z116_0, z116_1, z116_2, z116_3, f116_0, f116_1, f116_2, f116_3⟩ := bq4 BK270) | ((with_reducible refine gate_store (t := 4) (p := 64) rfl ?_); refine store_event (t := 4) (p := 64) (v := ?vo_w117) (w1 := (w115.setCell ⟨gb270, 1, none⟩ (.bool (!((rd_T46 t239 t245).f1))))) ?hg ?ho ?hn ?hr ?_; (case ho => rfl); (case hg => rfl); (case hn => rfl); (case hr => first | (go_simp; done) | (go_simp; rfl)); intro w117 hw; replace HO238 : Aside0 (Kd.R Kd.bool 4 w117 w.heap.size (fun _ => True) (.slice Ao103 t236.length co103) t236) := ⟨(by rw [hw]; exact (rM (rB HO238 BK270) (fun _ hk => trivial)))⟩; replace HO241 : Aside0 (Kd.R k46 46 w117 w.heap.size (fun k_ => k_ ≠ gb270) (.slice (some ad269) t239.length co104) t239) := ⟨(by rw [hw]; exact (by (with_reducible repeat (first | apply rA | apply rN | apply rD)); exact rM (Kd.R_far (p := ⟨gb270, 1, none⟩) (rM HO241.o (fun k_ hk => (⟨hk, hk⟩ : _ ∧ k_ ≠ gb270))) (fun _ hk => hk.2) (.bool (!((rd_T46 t239 t245).f1)))) (fun _ hk => hk.1)))⟩; replace BK234 : Aside0 (w117.heap[gb234]? = some (.cells #[.int .i64 0, .slice none 0 0, .slice none 0 0] 27 (0, 0))) := ⟨(by rw [hw]; exact (kF BK234))⟩; replace BK244 : Aside0 (w117.heap[gb244]? = some (.cells #[.int .i64 t235, .slice Ao103 t236.length co103, .slice (some ad269) t239.length co104] 27 (0, 0))) := ⟨(by rw [hw]; exact (kF BK244))⟩; replace BK270 : Aside0 (w117.heap[gb270]? = some (.cells #[.int .i64 ((rd_T46 t239 t245).f0), .bool (!((rd_T46 t239 t245).f1)), .int .i64 ((rd_T46 t239 t245).f2), .int .i64 ((rd_T46 t239 t245).f3)] 46 (0, 0))) := ⟨(by rw [hw]; exact (by (with_reducible repeat (first | apply bN | apply bD | apply bA)); refine bP (cs := #[.int .i64 ((rd_T46 t239 t245).f0), .bool ((rd_T46 t239 t245).f1), .int .i64 ((rd_T46 t239 t245).f2), .int .i64 ((rd_T46 t239 t245).f3)]) ?_ 1 _ rfl; (with_reducible repeat (first | apply bN | apply bD | apply bA)); exact BK270.o))⟩; replace HK : Aside0 (KeepBut w w117 g none) := ⟨(by rw [hw]; exact (zH HK))⟩; replace HB : Aside0 (Below w0.heap.size w0 w117) := ⟨(by rw [hw]; exact (zB HB))⟩; replace HI0 : Aside0 (IsS69 w0 w117 g s0_0 t249 t250) := ⟨(by rw [hw]; exact (spec_l13Any.zI69 HI0))⟩; clear hw; obtain ⟨z118_0, z118_1, z118_2, f118_0, f118_1, f118_2⟩ := bq3 BK244; obtain ⟨z119_0, z119_1, z119_2, z119_3, f119_0, f119_1, f119_2, f119_3⟩ := bq4 BK270) | ((with_reducible refine gate_builtin (b := .append) (xs := #[.tmp 66, .tmp 68]) rfl ?_); at_builtin; refine Kd.R_append k46 w.heap.size rfl (.tmp 66) (.tmp 68) 25 46 (.agg #[(.int .i64 0), (.bool false), (.int .i64 0), (.int .i64 0)]) 32 rfl Try.underlying25 info46 rfl (by decide) (by omega) (.slice (some ad269) t239.length co104) t239 (⟨(rd_T46 t239 t245).f0, !((rd_T46 t239 t245).f1), (rd_T46 t239 t245).f2, (rd_T46 t239 t245).f3⟩ : S46) [.int .i64 ((rd_T46 t239 t245).f0), .bool (!((rd_T46 t239 t245).f1)), .int .i64 ((rd_T46 t239 t245).f2), .int .i64 ((rd_T46 t239 t245).f3)] (fun k_ => k_ ≠ gb270) (fun _ => False) rfl rfl ?aP (fun _ hk => hk.elim) ?aF ?aO (Below.refl _ _) ?aS ?aL ?_; (case aP => exact k46_mkM _ _ _ (⟨(rd_T46 t239 t245).f0, !((rd_T46 t239 t245).f1), (rd_T46 t239 t245).f2, (rd_T46 t239 t245).f3⟩ : S46)); (case aF => exact (fun k_ hk => Kd.freshB (g := gb270) (o := .cells #[.int .i64 ((rd_T46 t239 t245).f0), .bool (!((rd_T46 t239 t245).f1)), .int .i64 ((rd_T46 t239 t245).f2), .int .i64 ((rd_T46 t239 t245).f3)] 46 (0, 0)) (zK BK270) k_ hk)); (case aO => exact (zR HO241)); (case aS => exact (keep_size (w := w) (g := g) (row := none) (zH HK))); (case aL => have := LMc96.o; omega); intro v272 w120 ho hb hg hat; rw [← Ny271.o] at ho; replace BK234 := aM (blk_grown (g := gb234) (o := .cells #[.int .i64 0, .slice none 0 0, .slice none 0 0] 27 (0, 0)) (zK BK234) hg (Kd.R_ne HO241.o BK234.o (by decide))); replace HO238 := aM (Kd.R_over' (zR HO238) (Kd.R_typed (zR HO241)) (by decide) hg); replace BK244 := aM (blk_grown (g := gb244) (o := .cells #[.int .i64 t235, .slice Ao103 t236.length co103, .slice (some ad269) t239.length co104] 27 (0, 0)) (zK BK244) hg (Kd.R_ne HO241.o BK244.o (by decide))); replace BK270 := aM (blk_grown (g := gb270) (o := .cells #[.int .i64 ((rd_T46 t239 t245).f0), .bool (!((rd_T46 t239 t245).f1)), .int .i64 ((rd_T46 t239 t245).f2), .int .i64 ((rd_T46 t239 t245).f3)] 46 (0, 0)) (zK BK270) hg (Kd.R_away HO241.o (fun _ hk => hk))); replace HB := aM (below_weaken (zB HB) HL.o hb); replace HI0 := aM (IsS69.grown (spec_l13Any.zI69 HI0) hg (IsS69.own_ne HI0.o HO241.o (by decide))); replace HK := aM (KeepBut.trans (zH HK) (KeepBut.of_grown hg g) (Kd.R_base2 HO241.o)); have HO273 := aM (ho); clear HO241; clear ho hb hg hat; obtain ⟨Ao121, co121, eo121⟩ := rL HO273.o; subst eo121; obtain ⟨z122_0, z122_1, z122_2, f122_0, f122_1, f122_2⟩ := bq3 BK244; have hnb123 := NB234_0.o; have hnc123 := NB0_234.o; obtain ⟨z124_0, z124_1, z124_2, f124_0, f124_1, f124_2⟩ := bq3 BK234))
      refine bodyPost_ret (results_cell_row rfl _ _ gb234 27 #[.int .i64 t235, .slice Ao103 t236.length co103, .slice Ao121 y271.length co121] (0, 0) _ rfl (by (with_reducible repeat (first | apply bN | apply bD | apply bA)); refine bP (cs := #[.int .i64 t235, .slice Ao103 t236.length co103, .slice none 0 0]) ?_ 2 _ rfl; (with_reducible repeat (first | apply bN | apply bD | apply bA)); refine bP (cs := #[.int .i64 t235, .slice none 0 0, .slice none 0 0]) ?_ 1 _ rfl; (with_reducible repeat (first | apply bN | apply bD | apply bA)); refine bP (cs := #[.int .i64 0, .slice none 0 0, .slice none 0 0]) ?_ 0 _ rfl; (with_reducible repeat (first | apply bN | apply bD | apply bA)); refine bF ?_ NB234_244.o _; (with_reducible repeat (first | apply bN | apply bD | apply bA)); exact BK234.o) Try.underlying27 rfl (by kernel_rfl)) rfl ?_
      exact ⟨_, _, zE, rM (rB2 HO238 BK244 BK234) (fun _ hk => trivial), rM (rB2 HO273 BK244 BK234) (fun _ hk => trivial), spec_l13Any.zI69 HI0, zB HB, zH HK⟩
     ·rw [if_neg c93] at H
      have c93b0 : (t248 == 3) = false := beq_eq_false_iff_ne.mpr c93
      have c93b1 : (t248 != 3) = true := bne_iff_ne.mpr c93
      by_cases c125 : t248 = 4
      ·rw [if_pos c125] at H
       have c125b0 : (t248 == 4) = true := beq_iff_eq.mpr c125
       have c125b1 : (t248 != 4) = false := bne_eq_false_iff_eq.mpr c125
       clear c125
       obtain ⟨y274, hy274⟩ : ∃ y_ : List Int, y_ = (([0, 6, 7] : List Int)) := ⟨_, rfl⟩
       replace H : ((spec_l1Int.f s0_0 t249 t250 y274).bind fun bt277 => (some (bt277.1, t236, t239, bt277.2.1, bt277.2.2))) = some (r1, r2, r3, r4, r5) := by first | (rw [hy274]; with_reducible exact H) | (rw [hy274]; exact H) | exact H
       have Ny274 := aM hy274
       clear hy274
       replace H := oB.mp H
       obtain ⟨⟨t277, t278, t279⟩, A1260, H⟩ := H
       dsimp only at H
       have A126 := aM A1260
       clear A1260
       simp only [Option.some.injEq, Prod.mk.injEq] at H
       obtain ⟨rfl, rfl, rfl, rfl, rfl⟩ := H
       go_enter Try.func55, Try.ntmps55
       go_wp2_with (first | ((with_reducible refine gD (N := 2) rfl ?_); refine box_event ?hg (N := 2) ?hd (cs := #[.int .i64 0, .slice none 0 0, .slice none 0 0]) (t := 27) ?hr ?_; (case hd => rfl); (case hg => rfl); (case hr => first | (go_simp; done) | (go_simp; rfl)); intro gb234 hg w127 hbox hb; replace HB := bS HB hb; have BK234 := aM (hbox); have GW234 := gK HK hg; have GE234 := gL HW0 GW234; replace HK := hkB HK hb; have NB0_234 := IsS69.nL HI0 hg; have NB234_0 := IsS69.nR HI0 hg; replace HI0 := aM (IsS69.below (spec_l13Any.zI69 HI0) hb); clear hb hbox hg) | ((with_reducible refine gC (f := 32) rfl ?_); refine goesL_ (some 7) rfl rfl Try.func32 (by kernel_rfl) rfl #[.pointer (some ⟨g, 0, none⟩)] rfl zG ?_; (with_reducible refine (spec_l13Draw.calls k g s0_0 s0_1 s0_2 t235 t236 t239 t242 t243 w0 _ ?s1 ?s2 A2.o).mono ?_); (case s1 => exact spec_l13Any.zI69 HI0); (case s2 => exact zB HB); rintro e w128 ⟨v237, v240, rfl, ho0, ho1, hi, hb, hk⟩; refine ⟨_, rfl, ?_⟩; replace BK234 := kbT hk BK234 NB234_0; have HO238 := aM (rO ho0 (keep_size (w := w) (g := g) (row := none) (zH HK))); have HO241 := aM (rO ho1 (keep_size (w := w) (g := g) (row := none) (zH HK))); replace HK := hkT HK hk; replace HB := aM (hb); replace HI0 := aM (hi); (try clear hb); (try clear ho0); (try clear ho1)) | ((with_reducible refine gD (N := 3) rfl ?_); refine box_event ?hg (N := 3) ?hd (cs := #[.int .i64 0, .slice none 0 0, .slice none 0 0]) (t := 27) ?hr ?_; (case hd => rfl); (case hg => rfl); (case hr => first | (go_simp; done) | (go_simp; rfl)); intro gb244 hg w129 hbox hb; replace HO238 := aM (rW (zR HO238) hb); replace HO241 := aM (rW (zR HO241) hb); replace HB := bS HB hb; have BK244 := aM (hbox); have GW244 := gK HK hg; have GE244 := gL HW0 GW244; replace HK := hkB HK hb; have NB234_244 := nL BK234 hg; have NB244_234 := nR BK234 hg; replace BK234 := kB BK234 hb; have NB0_244 := IsS69.nL HI0 hg; have NB244_0 := IsS69.nR HI0 hg; replace HI0 := aM (IsS69.below (spec_l13Any.zI69 HI0) hb); clear hb hbox hg; have hnb130 := NB244_234.o; have hnc130 := NB234_244.o; have hnb131 := NB244_0.o; have hnc131 := NB0_244.o; obtain ⟨z132_0, z132_1, z132_2, f132_0, f132_1, f132_2⟩ := bq3 BK244; obtain ⟨Ao133, co133, eo133⟩ := rL HO238.o; subst eo133; obtain ⟨Ao134, co134, eo134⟩ := rL HO241.o; subst eo134) | ((with_reducible refine gate_store (t := 27) (p := 3) rfl ?_); refine store_event (t := 27) (p := 3) (v := ?vo_w135) (w1 := (((w129.setCell ⟨gb244, 0, none⟩ (.int .i64 t235)).setCell ⟨gb244, 1, none⟩ (.slice Ao133 t236.length co133)).setCell ⟨gb244, 2, none⟩ (.slice Ao134 t239.length co134))) ?hg ?ho ?hn ?hr ?_; (case ho => rfl); (case hg => rfl); (case hn => rfl); (case hr => first | (go_simp; done) | (go_simp; rfl)); intro w135 hw; replace HO238 : Aside0 (Kd.R Kd.bool 4 w135 w.heap.size (fun _ => True) (.slice Ao133 t236.length co133) t236) := ⟨(by rw [hw]; exact (rM (rB HO238 BK244) (fun _ hk => trivial)))⟩; replace HO241 : Aside0 (Kd.R k46 46 w135 w.heap.size (fun _ => True) (.slice Ao134 t239.length co134) t239) := ⟨(by rw [hw]; exact (rM (rB HO241 BK244) (fun _ hk => trivial)))⟩; replace BK234 : Aside0 (w135.heap[gb234]? = some (.cells #[.int .i64 0, .slice none 0 0, .slice none 0 0] 27 (0, 0))) := ⟨(by rw [hw]; exact (kF BK234))⟩; replace BK244 : Aside0 (w135.heap[gb244]? = some (.cells #[.int .i64 t235, .slice Ao133 t236.length co133, .slice Ao134 t239.length co134] 27 (0, 0))) := ⟨(by rw [hw]; exact (by (with_reducible repeat (first | apply bN | apply bD | apply bA)); refine bP (cs := #[.int .i64 t235, .slice Ao133 t236.length co133, .slice none 0 0]) ?_ 2 _ rfl; (with_reducible repeat (first | apply bN | apply bD | apply bA)); refine bP (cs := #[.int .i64 t235, .slice none 0 0, .slice none 0 0]) ?_ 1 _ rfl; (with_reducible repeat (first | apply bN | apply bD | apply bA)); refine bP (cs := #[.int .i64 0, .slice none 0 0, .slice none 0 0]) ?_ 0 _ rfl; (with_reducible repeat (first | apply bN | apply bD | apply bA)); exact BK244.o))⟩; replace HK : Aside0 (KeepBut w w135 g none) := ⟨(by rw [hw]; exact (zH HK))⟩; replace HB : Aside0 (Below w0.heap.size w0 w135) := ⟨(by rw [hw]; exact (zB HB))⟩; replace HI0 : Aside0 (IsS69 w0 w135 g s0_0 t242 t243) := ⟨(by rw [hw]; exact (spec_l13Any.zI69 HI0))⟩; clear hw; obtain ⟨z136_0, z136_1, z136_2, f136_0, f136_1, f136_2⟩ := bq3 BK244) | ((with_reducible refine gC (f := 33) rfl ?_); refine goesL_ (some 17) rfl rfl Try.func33 (by kernel_rfl) rfl #[.pointer (some ⟨g, 0, none⟩), .int .i64 (t239.length : Int)] rfl zG ?_; (with_reducible refine (spec_l1Below.calls g s0_0 t242 t243 (t239.length : Int) t245 t246 t247 w0 _ ?s1 ?s2 A14.o).mono ?_); (case s1 => exact spec_l13Any.zI69 HI0); (case s2 => exact zB HB); rintro e w137 ⟨rfl, hi, hb, hk⟩; refine ⟨_, rfl, ?_⟩; replace BK234 := kbT hk BK234 NB234_0; replace HO238 := IsS69.kR HI0 HO238 hk; replace HO241 := IsS69.kR HI0 HO241 hk; replace BK244 := kbT hk BK244 NB244_0; replace HK := hkT HK hk; replace HB := aM (hb); replace HI0 := aM (hi); (try clear hb)) | ((with_reducible refine gC (f := 33) rfl ?_); refine goesL_ (some 19) rfl rfl Try.func33 (by kernel_rfl) rfl #[.pointer (some ⟨g, 0, none⟩), .int .i64 12] rfl zG ?_; (with_reducible refine (spec_l1Below.calls g s0_0 t246 t247 12 t248 t249 t250 w0 _ ?s1 ?s2 A15.o).mono ?_); (case s1 => exact spec_l13Any.zI69 HI0); (case s2 => exact zB HB); rintro e w138 ⟨rfl, hi, hb, hk⟩; refine ⟨_, rfl, ?_⟩; replace BK234 := kbT hk BK234 NB234_0; replace HO238 := IsS69.kR HI0 HO238 hk; replace HO241 := IsS69.kR HI0 HO241 hk; replace BK244 := kbT hk BK244 NB244_0; replace HK := hkT HK hk; replace HB := aM (hb); replace HI0 := aM (hi); (try clear hb)) | ((with_reducible refine gD (N := 74) rfl ?_); refine Kd.R_lit (Kd.int .i64) _ 3 ?hg (N := 74) ?hd (xs := ([0, 6, 7] : List Int)) (inner := [.int .i64 0, .int .i64 6, .int .i64 7]) (ok := fun _ => True) (okp := fun _ => True) ?hr ?hp (fun _ hk => hk) trivial (Below.refl _ _) (Nat.le_refl _) (by simp) ?_; (case hd => rfl); (case hg => rfl); (case hr => first | (go_simp; done) | (go_simp; rfl)); (case hp => exact (Reps.one (show Kd.M (Kd.int .i64) _ _ _ 0 [.int .i64 0] from rfl) (Reps.one (show Kd.M (Kd.int .i64) _ _ _ 6 [.int .i64 6] from rfl) (Reps.one (show Kd.M (Kd.int .i64) _ _ _ 7 [.int .i64 7] from rfl) (Reps.none _ _))))); intro v275 w139 ho140 hb hg_ hnew_; clear hg_ hnew_; (first | rw [← Ny274.o] at ho140 | (simp only [Int.reduceToNat] at ho140; rw [← Ny274.o] at ho140)); replace HO238 := aM (rW (zR HO238) hb); replace HO241 := aM (rW (zR HO241) hb); have HO276 := aM (rO ho140 (keep_size (w := w) (g := g) (row := none) (zH HK))); replace BK234 := kB BK234 hb; replace BK244 := kB BK244 hb; replace HK := hkB HK hb; replace HB := bS HB hb; replace HI0 := aM (IsS69.below (spec_l13Any.zI69 HI0) hb); clear hb ho140; obtain ⟨Ao141, co141, eo141⟩ := rL HO276.o; subst eo141) | ((with_reducible refine gC (f := 63) rfl ?_); refine goesL_ (some 75) rfl rfl Try.func63 (by kernel_rfl) rfl #[.pointer (some ⟨g, 0, none⟩), .slice Ao141 y274.length co141] rfl zG ?_; (with_reducible refine (spec_l1Int.calls g s0_0 t249 t250 _ _ y274 t277 t278 t279 w0 _ ?s1 ?s2 ?s3 ?s4 ?s5 A126.o).mono ?_); (case s1 => exact spec_l13Any.zI69 HI0); (case s2 => exact zB HB); (case s3 => exact cU (rQ HO276.o).2.2); (case s4 => exact (rQ HO276.o).2.1); (case s5 => exact far_slice (IsS69.own_ne HI0.o HO276.o (by decide))); rintro e w142 ⟨rfl, hi, hb, hk⟩; refine ⟨_, rfl, ?_⟩; replace BK234 := kbT hk BK234 NB234_0; replace HO238 := IsS69.kR HI0 HO238 hk; replace HO241 := IsS69.kR HI0 HO241 hk; replace BK244 := kbT hk BK244 NB244_0; replace HO276 := IsS69.kR HI0 HO276 hk; replace HK := hkT HK hk; replace HB := aM (hb); replace HI0 := aM (hi); (try clear hb); obtain ⟨z143_0, z143_1, z143_2, f143_0, f143_1, f143_2⟩ := bq3 BK244; have hnb144 := NB234_0.o; have hnc144 := NB0_234.o; obtain ⟨z145_0, z145_1, z145_2, f145_0, f145_1, f145_2⟩ := bq3 BK234))
       refine bodyPost_ret (results_cell_row rfl _ _ gb234 27 #[.int .i64 t277, .slice Ao133 t236.length co133, .slice Ao134 t239.length co134] (0, 0) _ rfl (by (with_reducible repeat (first | apply bN | apply bD | apply bA)); refine bP (cs := #[.int .i64 t277, .slice Ao133 t236.length co133, .slice none 0 0]) ?_ 2 _ rfl; (with_reducible repeat (first | apply bN | apply bD | apply bA)); refine bP (cs := #[.int .i64 t277, .slice none 0 0, .slice none 0 0]) ?_ 1 _ rfl; (with_reducible repeat (first | apply bN | apply bD | apply bA)); refine bP (cs := #[.int .i64 0, .slice none 0 0, .slice none 0 0]) ?_ 0 _ rfl; (with_reducible repeat (first | apply bN | apply bD | apply bA)); refine bF ?_ NB234_244.o _; (with_reducible repeat (first | apply bN | apply bD | apply bA)); exact BK234.o) Try.underlying27 rfl (by kernel_rfl)) rfl ?_
       exact ⟨_, _, zE, rM (rB2 HO238 BK244 BK234) (fun _ hk => trivial), rM (rB2 HO241 BK244 BK234) (fun _ hk => trivial), spec_l13Any.zI69 HI0, zB HB, zH HK⟩
      ·rw [if_neg c125] at H
       have c125b0 : (t248 == 4) = false := beq_eq_false_iff_ne.mpr c125
       have c125b1 : (t248 != 4) = true := bne_iff_ne.mpr c125
       by_cases c146 : t248 = 5
       ·rw [if_pos c146] at H
        have c146b0 : (t248 == 5) = true := beq_iff_eq.mpr c146
        have c146b1 : (t248 != 5) = false := bne_eq_false_iff_eq.mpr c146
        clear c146
        obtain ⟨c147, H⟩ := ifS H
        have LMc147 := aM c147
        clear c147
        obtain ⟨y280, hy280⟩ : ∃ y_ : List Bool, y_ = (t236 ++ [true]) := ⟨_, rfl⟩
        replace H : (some (t235, y280, t239, t249, t250)) = some (r1, r2, r3, r4, r5) := by first | (rw [hy280]; with_reducible exact H) | (rw [hy280]; exact H) | exact H
        have Ny280 := aM hy280
        clear hy280
        simp only [Option.some.injEq, Prod.mk.injEq] at H
        obtain ⟨rfl, rfl, rfl, rfl, rfl⟩ := H
        go_enter Try.func55, Try.ntmps55
        go_wp2_with (first | ((with_reducible refine gD (N := 2) rfl ?_); refine box_event ?hg (N := 2) ?hd (cs := #[.int .i64 0, .slice none 0 0, .slice none 0 0]) (t := 27) ?hr ?_; (case hd => rfl); (case hg => rfl); (case hr => first | (go_simp; done) | (go_simp; rfl)); intro gb234 hg w148 hbox hb; replace HB := bS HB hb; have BK234 := aM (hbox); have GW234 := gK HK hg; have GE234 := gL HW0 GW234; replace HK := hkB HK hb; have NB0_234 := IsS69.nL HI0 hg; have NB234_0 := IsS69.nR HI0 hg; replace HI0 := aM (IsS69.below (spec_l13Any.zI69 HI0) hb); clear hb hbox hg) | ((with_reducible refine gC (f := 32) rfl ?_); refine goesL_ (some 7) rfl rfl Try.func32 (by kernel_rfl) rfl #[.pointer (some ⟨g, 0, none⟩)] rfl zG ?_; (with_reducible refine (spec_l13Draw.calls k g s0_0 s0_1 s0_2 t235 t236 t239 t242 t243 w0 _ ?s1 ?s2 A2.o).mono ?_); (case s1 => exact spec_l13Any.zI69 HI0); (case s2 => exact zB HB); rintro e w149 ⟨v237, v240, rfl, ho0, ho1, hi, hb, hk⟩; refine ⟨_, rfl, ?_⟩; replace BK234 := kbT hk BK234 NB234_0; have HO238 := aM (rO ho0 (keep_size (w := w) (g := g) (row := none) (zH HK))); have HO241 := aM (rO ho1 (keep_size (w := w) (g := g) (row := none) (zH HK))); replace HK := hkT HK hk; replace HB := aM (hb); replace HI0 := aM (hi); (try clear hb); (try clear ho0); (try clear ho1)) | ((with_reducible refine gD (N := 3) rfl ?_); refine box_event ?hg (N := 3) ?hd (cs := #[.int .i64 0, .slice none 0 0, .slice none 0 0]) (t := 27) ?hr ?_; (case hd => rfl); (case hg => rfl); (case hr => first | (go_simp; done) | (go_simp; rfl)); intro gb244 hg w150 hbox hb; replace HO238 := aM (rW (zR HO238) hb); replace HO241 := aM (rW (zR HO241) hb); replace HB := bS HB hb; have BK244 := aM (hbox); have GW244 := gK HK hg; have GE244 := gL HW0 GW244; replace HK := hkB HK hb; have NB234_244 := nL BK234 hg; have NB244_234 := nR BK234 hg; replace BK234 := kB BK234 hb; have NB0_244 := IsS69.nL HI0 hg; have NB244_0 := IsS69.nR HI0 hg; replace HI0 := aM (IsS69.below (spec_l13Any.zI69 HI0) hb); clear hb hbox hg; have hnb151 := NB244_234.o; have hnc151 := NB234_244.o; have hnb152 := NB244_0.o; have hnc152 := NB0_244.o; obtain ⟨z153_0, z153_1, z153_2, f153_0, f153_1, f153_2⟩ := bq3 BK244; obtain ⟨Ao154, co154, eo154⟩ := rL HO238.o; subst eo154; obtain ⟨Ao155, co155, eo155⟩ := rL HO241.o; subst eo155) | ((with_reducible refine gate_store (t := 27) (p := 3) rfl ?_); refine store_event (t := 27) (p := 3) (v := ?vo_w156) (w1 := (((w150.setCell ⟨gb244, 0, none⟩ (.int .i64 t235)).setCell ⟨gb244, 1, none⟩ (.slice Ao154 t236.length co154)).setCell ⟨gb244, 2, none⟩ (.slice Ao155 t239.length co155))) ?hg ?ho ?hn ?hr ?_; (case ho => rfl); (case hg => rfl); (case hn => rfl); (case hr => first | (go_simp; done) | (go_simp; rfl)); intro w156 hw; replace HO238 : Aside0 (Kd.R Kd.bool 4 w156 w.heap.size (fun _ => True) (.slice Ao154 t236.length co154) t236) := ⟨(by rw [hw]; exact (rM (rB HO238 BK244) (fun _ hk => trivial)))⟩; replace HO241 : Aside0 (Kd.R k46 46 w156 w.heap.size (fun _ => True) (.slice Ao155 t239.length co155) t239) := ⟨(by rw [hw]; exact (rM (rB HO241 BK244) (fun _ hk => trivial)))⟩; replace BK234 : Aside0 (w156.heap[gb234]? = some (.cells #[.int .i64 0, .slice none 0 0, .slice none 0 0] 27 (0, 0))) := ⟨(by rw [hw]; exact (kF BK234))⟩; replace BK244 : Aside0 (w156.heap[gb244]? = some (.cells #[.int .i64 t235, .slice Ao154 t236.length co154, .slice Ao155 t239.length co155] 27 (0, 0))) := ⟨(by rw [hw]; exact (by (with_reducible repeat (first | apply bN | apply bD | apply bA)); refine bP (cs := #[.int .i64 t235, .slice Ao154 t236.length co154, .slice none 0 0]) ?_ 2 _ rfl; (with_reducible repeat (first | apply bN | apply bD | apply bA)); refine bP (cs := #[.int .i64 t235, .slice none 0 0, .slice none 0 0]) ?_ 1 _ rfl; (with_reducible repeat (first | apply bN | apply bD | apply bA)); refine bP (cs := #[.int .i64 0, .slice none 0 0, .slice none 0 0]) ?_ 0 _ rfl; (with_reducible repeat (first | apply bN | apply bD | apply bA)); exact BK244.o))⟩; replace HK : Aside0 (KeepBut w w156 g none) := ⟨(by rw [hw]; exact (zH HK))⟩; replace HB : Aside0 (Below w0.heap.size w0 w156) := ⟨(by rw [hw]; exact (zB HB))⟩; replace HI0 : Aside0 (IsS69 w0 w156 g s0_0 t242 t243) := ⟨(by rw [hw]; exact (spec_l13Any.zI69 HI0))⟩; clear hw; obtain ⟨z157_0, z157_1, z157_2, f157_0, f157_1, f157_2⟩ := bq3 BK244) | ((with_reducible refine gC (f := 33) rfl ?_); refine goesL_ (some 17) rfl rfl Try.func33 (by kernel_rfl) rfl #[.pointer (some ⟨g, 0, none⟩), .int .i64 (t239.length : Int)] rfl zG ?_; (with_reducible refine (spec_l1Below.calls g s0_0 t242 t243 (t239.length : Int) t245 t246 t247 w0 _ ?s1 ?s2 A14.o).mono ?_); (case s1 => exact spec_l13Any.zI69 HI0); (case s2 => exact zB HB); rintro e w158 ⟨rfl, hi, hb, hk⟩; refine ⟨_, rfl, ?_⟩; replace BK234 := kbT hk BK234 NB234_0; replace HO238 := IsS69.kR HI0 HO238 hk; replace HO241 := IsS69.kR HI0 HO241 hk; replace BK244 := kbT hk BK244 NB244_0; replace HK := hkT HK hk; replace HB := aM (hb); replace HI0 := aM (hi); (try clear hb)) | ((with_reducible refine gC (f := 33) rfl ?_); refine goesL_ (some 19) rfl rfl Try.func33 (by kernel_rfl) rfl #[.pointer (some ⟨g, 0, none⟩), .int .i64 12] rfl zG ?_; (with_reducible refine (spec_l1Below.calls g s0_0 t246 t247 12 t248 t249 t250 w0 _ ?s1 ?s2 A15.o).mono ?_); (case s1 => exact spec_l13Any.zI69 HI0); (case s2 => exact zB HB); rintro e w159 ⟨rfl, hi, hb, hk⟩; refine ⟨_, rfl, ?_⟩; replace BK234 := kbT hk BK234 NB234_0; replace HO238 := IsS69.kR HI0 HO238 hk; replace HO241 := IsS69.kR HI0 HO241 hk; replace BK244 := kbT hk BK244 NB244_0; replace HK := hkT HK hk; replace HB := aM (hb); replace HI0 := aM (hi); (try clear hb); obtain ⟨z160_0, z160_1, z160_2, f160_0, f160_1, f160_2⟩ := bq3 BK244) | ((with_reducible refine gate_builtin (b := .append) (xs := #[.tmp 80, .tmp 81]) rfl ?_); at_builtin; refine Kd.R_append Kd.bool w.heap.size rfl (.tmp 80) (.tmp 81) 24 4 (.bool false) 1 rfl Try.underlying24 info4 rfl (by decide) (by omega) (.slice Ao154 t236.length co154) t236 true [.bool true] (fun _ => True) (fun _ => False) rfl rfl ?aP (fun _ hk => hk.elim) ?aF ?aO (Below.refl _ _) ?aS ?aL ?_; (case aP => exact rfl); (case aF => exact (fun _ _ => trivial)); (case aO => exact (zR HO238)); (case aS => exact (keep_size (w := w) (g := g) (row := none) (zH HK))); (case aL => have := LMc147.o; omega); intro v281 w161 ho hb hg hat; rw [← Ny280.o] at ho; replace BK234 := aM (blk_grown (g := gb234) (o := .cells #[.int .i64 0, .slice none 0 0, .slice none 0 0] 27 (0, 0)) (zK BK234) hg (Kd.R_ne HO238.o BK234.o (by decide))); replace HO241 := aM (Kd.R_over' (zR HO241) (Kd.R_typed (zR HO238)) (by decide) hg); replace BK244 := aM (blk_grown (g := gb244) (o := .cells #[.int .i64 t235, .slice Ao154 t236.length co154, .slice Ao155 t239.length co155] 27 (0, 0)) (zK BK244) hg (Kd.R_ne HO238.o BK244.o (by decide))); replace HB := aM (below_weaken (zB HB) HL.o hb); replace HI0 := aM (IsS69.grown (spec_l13Any.zI69 HI0) hg (IsS69.own_ne HI0.o HO238.o (by decide))); replace HK := aM (KeepBut.trans (zH HK) (KeepBut.of_grown hg g) (Kd.R_base2 HO238.o)); have HO282 := aM (ho); clear HO238; clear ho hb hg hat; obtain ⟨Ao162, co162, eo162⟩ := rL HO282.o; subst eo162; obtain ⟨z163_0, z163_1, z163_2, f163_0, f163_1, f163_2⟩ := bq3 BK244; have hnb164 := NB234_0.o; have hnc164 := NB0_234.o; obtain ⟨z165_0, z165_1, z165_2, f165_0, f165_1, f165_2⟩ := bq3 BK234))
        refine bodyPost_ret (results_cell_row rfl _ _ gb234 27 #[.int .i64 t235, .slice Ao162 y280.length co162, .slice Ao155 t239.length co155] (0, 0) _ rfl (by (with_reducible repeat (first | apply bN | apply bD | apply bA)); refine bP (cs := #[.int .i64 t235, .slice Ao162 y280.length co162, .slice none 0 0]) ?_ 2 _ rfl; (with_reducible repeat (first | apply bN | apply bD | apply bA)); refine bP (cs := #[.int .i64 t235, .slice none 0 0, .slice none 0 0]) ?_ 1 _ rfl; (with_reducible repeat (first | apply bN | apply bD | apply bA)); refine bP (cs := #[.int .i64 0, .slice none 0 0, .slice none 0 0]) ?_ 0 _ rfl; (with_reducible repeat (first | apply bN | apply bD | apply bA)); refine bF ?_ NB234_244.o _; (with_reducible repeat (first | apply bN | apply bD | apply bA)); exact BK234.o) Try.underlying27 rfl (by kernel_rfl)) rfl ?_
        exact ⟨_, _, zE, rM (rB2 HO282 BK244 BK234) (fun _ hk => trivial), rM (rB2 HO241 BK244 BK234) (fun _ hk => trivial), spec_l13Any.zI69 HI0, zB HB, zH HK⟩
       ·rw [if_neg c146] at H
        have c146b0 : (t248 == 5) = false := beq_eq_false_iff_ne.mpr c146
        have c146b1 : (t248 != 5) = true := bne_iff_ne.mpr c146
        simp only [Option.some.injEq, Prod.mk.injEq] at H
        obtain ⟨rfl, rfl, rfl, rfl, rfl⟩ := H
        go_enter Try.func55, Try.ntmps55
        go_wp2_with (first | ((with_reducible refine gD (N := 2) rfl ?_); refine box_event ?hg (N := 2) ?hd (cs := #[.int .i64 0, .slice none 0 0, .slice none 0 0]) (t := 27) ?hr ?_; (case hd => rfl); (case hg => rfl); (case hr => first | (go_simp; done) | (go_simp; rfl)); intro gb234 hg w166 hbox hb; replace HB := bS HB hb; have BK234 := aM (hbox); have GW234 := gK HK hg; have GE234 := gL HW0 GW234; replace HK := hkB HK hb; have NB0_234 := IsS69.nL HI0 hg; have NB234_0 := IsS69.nR HI0 hg; replace HI0 := aM (IsS69.below (spec_l13Any.zI69 HI0) hb); clear hb hbox hg) | ((with_reducible refine gC (f := 32) rfl ?_); refine goesL_ (some 7) rfl rfl Try.func32 (by kernel_rfl) rfl #[.pointer (some ⟨g, 0, none⟩)] rfl zG ?_; (with_reducible refine (spec_l13Draw.calls k g s0_0 s0_1 s0_2 t235 t236 t239 t242 t243 w0 _ ?s1 ?s2 A2.o).mono ?_); (case s1 => exact spec_l13Any.zI69 HI0); (case s2 => exact zB HB); rintro e w167 ⟨v237, v240, rfl, ho0, ho1, hi, hb, hk⟩; refine ⟨_, rfl, ?_⟩; replace BK234 := kbT hk BK234 NB234_0; have HO238 := aM (rO ho0 (keep_size (w := w) (g := g) (row := none) (zH HK))); have HO241 := aM (rO ho1 (keep_size (w := w) (g := g) (row := none) (zH HK))); replace HK := hkT HK hk; replace HB := aM (hb); replace HI0 := aM (hi); (try clear hb); (try clear ho0); (try clear ho1)) | ((with_reducible refine gD (N := 3) rfl ?_); refine box_event ?hg (N := 3) ?hd (cs := #[.int .i64 0, .slice none 0 0, .slice none 0 0]) (t := 27) ?hr ?_; (case hd => rfl); (case hg => rfl); (case hr => first | (go_simp; done) | (go_simp; rfl)); intro gb244 hg w168 hbox hb; replace HO238 := aM (rW (zR HO238) hb); replace HO241 := aM (rW (zR HO241) hb); replace HB := bS HB hb; have BK244 := aM (hbox); have GW244 := gK HK hg; have GE244 := gL HW0 GW244; replace HK := hkB HK hb; have NB234_244 := nL BK234 hg; have NB244_234 := nR BK234 hg; replace BK234 := kB BK234 hb; have NB0_244 := IsS69.nL HI0 hg; have NB244_0 := IsS69.nR HI0 hg; replace HI0 := aM (IsS69.below (spec_l13Any.zI69 HI0) hb); clear hb hbox hg; have hnb169 := NB244_234.o; have hnc169 := NB234_244.o; have hnb170 := NB244_0.o; have hnc170 := NB0_244.o; obtain ⟨z171_0, z171_1, z171_2, f171_0, f171_1, f171_2⟩ := bq3 BK244; obtain ⟨Ao172, co172, eo172⟩ := rL HO238.o; subst eo172; obtain ⟨Ao173, co173, eo173⟩ := rL HO241.o; subst eo173) | ((with_reducible refine gate_store (t := 27) (p := 3) rfl ?_); refine store_event (t := 27) (p := 3) (v := ?vo_w174) (w1 := (((w168.setCell ⟨gb244, 0, none⟩ (.int .i64 t235)).setCell ⟨gb244, 1, none⟩ (.slice Ao172 t236.length co172)).setCell ⟨gb244, 2, none⟩ (.slice Ao173 t239.length co173))) ?hg ?ho ?hn ?hr ?_; (case ho => rfl); (case hg => rfl); (case hn => rfl); (case hr => first | (go_simp; done) | (go_simp; rfl)); intro w174 hw; replace HO238 : Aside0 (Kd.R Kd.bool 4 w174 w.heap.size (fun _ => True) (.slice Ao172 t236.length co172) t236) := ⟨(by rw [hw]; exact (rM (rB HO238 BK244) (fun _ hk => trivial)))⟩; replace HO241 : Aside0 (Kd.R k46 46 w174 w.heap.size (fun _ => True) (.slice Ao173 t239.length co173) t239) := ⟨(by rw [hw]; exact (rM (rB HO241 BK244) (fun _ hk => trivial)))⟩; replace BK234 : Aside0 (w174.heap[gb234]? = some (.cells #[.int .i64 0, .slice none 0 0, .slice none 0 0] 27 (0, 0))) := ⟨(by rw [hw]; exact (kF BK234))⟩; replace BK244 : Aside0 (w174.heap[gb244]? = some (.cells #[.int .i64 t235, .slice Ao172 t236.length co172, .slice Ao173 t239.length co173] 27 (0, 0))) := ⟨(by rw [hw]; exact (by (with_reducible repeat (first | apply bN | apply bD | apply bA)); refine bP (cs := #[.int .i64 t235, .slice Ao172 t236.length co172, .slice none 0 0]) ?_ 2 _ rfl; (with_reducible repeat (first | apply bN | apply bD | apply bA)); refine bP (cs := #[.int .i64 t235, .slice none 0 0, .slice none 0 0]) ?_ 1 _ rfl; (with_reducible repeat (first | apply bN | apply bD | apply bA)); refine bP (cs := #[.int .i64 0, .slice none 0 0, .slice none 0 0]) ?_ 0 _ rfl; (with_reducible repeat (first | apply bN | apply bD | apply bA)); exact BK244.o))⟩; replace HK : Aside0 (KeepBut w w174 g none) := ⟨(by rw [hw]; exact (zH HK))⟩; replace HB : Aside0 (Below w0.heap.size w0 w174) := ⟨(by rw [hw]; exact (zB HB))⟩; replace HI0 : Aside0 (IsS69 w0 w174 g s0_0 t242 t243) := ⟨(by rw [hw]; exact (spec_l13Any.zI69 HI0))⟩; clear hw; obtain ⟨z175_0, z175_1, z175_2, f175_0, f175_1, f175_2⟩ := bq3 BK244) | ((with_reducible refine gC (f := 33) rfl ?_); refine goesL_ (some 17) rfl rfl Try.func33 (by kernel_rfl) rfl #[.pointer (some ⟨g, 0, none⟩), .int .i64 (t239.length : Int)] rfl zG ?_; (with_reducible refine (spec_l1Below.calls g s0_0 t242 t243 (t239.length : Int) t245 t246 t247 w0 _ ?s1 ?s2 A14.o).mono ?_); (case s1 => exact spec_l13Any.zI69 HI0); (case s2 => exact zB HB); rintro e w176 ⟨rfl, hi, hb, hk⟩; refine ⟨_, rfl, ?_⟩; replace BK234 := kbT hk BK234 NB234_0; replace HO238 := IsS69.kR HI0 HO238 hk; replace HO241 := IsS69.kR HI0 HO241 hk; replace BK244 := kbT hk BK244 NB244_0; replace HK := hkT HK hk; replace HB := aM (hb); replace HI0 := aM (hi); (try clear hb)) | ((with_reducible refine gC (f := 33) rfl ?_); refine goesL_ (some 19) rfl rfl Try.func33 (by kernel_rfl) rfl #[.pointer (some ⟨g, 0, none⟩), .int .i64 12] rfl zG ?_; (with_reducible refine (spec_l1Below.calls g s0_0 t246 t247 12 t248 t249 t250 w0 _ ?s1 ?s2 A15.o).mono ?_); (case s1 => exact spec_l13Any.zI69 HI0); (case s2 => exact zB HB); rintro e w177 ⟨rfl, hi, hb, hk⟩; refine ⟨_, rfl, ?_⟩; replace BK234 := kbT hk BK234 NB234_0; replace HO238 := IsS69.kR HI0 HO238 hk; replace HO241 := IsS69.kR HI0 HO241 hk; replace BK244 := kbT hk BK244 NB244_0; replace HK := hkT HK hk; replace HB := aM (hb); replace HI0 := aM (hi); (try clear hb); obtain ⟨z178_0, z178_1, z178_2, f178_0, f178_1, f178_2⟩ := bq3 BK244; have hnb179 := NB234_0.o; have hnc179 := NB0_234.o; obtain ⟨z180_0, z180_1, z180_2, f180_0, f180_1, f180_2⟩ := bq3 BK234))
        refine bodyPost_ret (results_cell_row rfl _ _ gb234 27 #[.int .i64 t235, .slice Ao172 t236.length co172, .slice Ao173 t239.length co173] (0, 0) _ rfl (by (with_reducible repeat (first | apply bN | apply bD | apply bA)); refine bP (cs := #[.int .i64 t235, .slice Ao172 t236.length co172, .slice none 0 0]) ?_ 2 _ rfl; (with_reducible repeat (first | apply bN | apply bD | apply bA)); refine bP (cs := #[.int .i64 t235, .slice none 0 0, .slice none 0 0]) ?_ 1 _ rfl; (with_reducible repeat (first | apply bN | apply bD | apply bA)); refine bP (cs := #[.int .i64 0, .slice none 0 0, .slice none 0 0]) ?_ 0 _ rfl; (with_reducible repeat (first | apply bN | apply bD | apply bA)); exact BK234.o) Try.underlying27 rfl (by kernel_rfl)) rfl ?_
        exact ⟨_, _, zE, rM (rB HO238 BK234) (fun _ hk => trivial), rM (rB HO241 BK234) (fun _ hk => trivial), spec_l13Any.zI69 HI0, zB HB, zH HK⟩

end Go.Proofs.Ytfibjclnaeocbaa.PFnPairs
