-- WRITTEN by pp.py, this session's own wrapper around the print; not trusted: Lean checks it
import Derived.Test.YtfibjclnaeocbaaPFnPairsx0
import Derived.Test.YtfibjclnaeocbaaPFnPairsx1
import Derived.Test.YtfibjclnaeocbaaPFnPairsx4
import Derived.Test.YtfibjclnaeocbaaPFnPairsx5
namespace Go.Proofs.Ytfibjclnaeocbaa.PFnPairs
open Go.RowKit Go.Proofs.Ytfibjclnaeocbaa.Hw Go.Proofs.YtfibjclnaeocbaaW.PrintWords Go.Proofs.YtfibjclnaeocbaaW.PrintLast Go.Proofs.YtfibjclnaeocbaaW.PrintMore
attribute [local go_sem] max2_int min2_int max_two min_two max_three min_three max_four min_four   -- for this text's walks alone
set_option linter.unusedVariables false
set_option linter.unusedSimpArgs false
set_option linter.unusedSectionVars false

/-! ### spec_l14Any: function 38 -/
def spec_l14Any.f (k : Nat) (s0_0 : List Int) (s0_1 : Int) (s0_2 : Int) : Option (Int × List Bool × (List (S46)) × Int × List Bool × (List (S46)) × Int × Int) := (spec_l14Pair.f k s0_0 s0_1 s0_2).bind fun bt285 => ((spec_l1Below.f s0_0 bt285.2.2.2.2.2.2.1 bt285.2.2.2.2.2.2.2 6).bind fun bt303 => (if bt303.1 = 0 then ((spec_l13Any.f k s0_0 bt303.2.1 bt303.2.2).bind fun bt306 => (some (bt285.1, bt285.2.1, bt285.2.2.1, bt306.1, bt306.2.1, bt306.2.2.1, bt306.2.2.2.1, bt306.2.2.2.2))) else (if bt303.1 = 1 then ((spec_l13Any.f k s0_0 bt303.2.1 bt303.2.2).bind fun bt315 => (some (bt315.1, bt315.2.1, bt315.2.2.1, bt285.2.2.2.1, bt285.2.2.2.2.1, bt285.2.2.2.2.2.1, bt315.2.2.2.1, bt315.2.2.2.2))) else (some (bt285.1, bt285.2.1, bt285.2.2.1, bt285.2.2.2.1, bt285.2.2.2.2.1, bt285.2.2.2.2.2.1, bt303.2.1, bt303.2.2)))))
theorem spec_l14Any.mono : ∀ a0 a1 a2 k, LeO (spec_l14Any.f k a0 a1 a2) (spec_l14Any.f (k + 1) a0 a1 a2) := by
 intro a0 a1 a2 k
 unfold spec_l14Any.f
 repeat' first
   | (with_reducible first | exact spec_l13Any.mono _ _ _ _ | exact spec_l14Pair.mono _ _ _ _ | exact LeO.refl _ | exact LeO.none _ | refine LeO.ite ?_ ?_ | refine LeO.bind ?_ (fun _ => ?_))
   | exact spec_l13Any.mono _ _ _ _
   | exact spec_l14Pair.mono _ _ _ _
   | exact LeO.none _
   | refine LeO.ite ?_ ?_
   | refine LeO.bind ?_ (fun _ => ?_)
theorem spec_l14Any.zI69 {P Q : Prop} (h : Aside0 P) (hw : P → Q := by intro h_; repeat (first | (with_reducible first | exact h_ | apply IsS69.alloc | apply IsS69.drew | apply IsS69.drewN | apply IsS69.set_1 | apply IsS69.set_2 | refine IsS69.far ?_ (Aside0.o (by assumption)) _) | exact h_)) : Q := hw h.o
set_option maxHeartbeats 8000000 in
set_option maxRecDepth 100000 in
theorem spec_l14Any.calls (k : Nat) (g : Nat) (s0_0 : List Int) (s0_1 : Int) (s0_2 : Int) (r1 : Int) (r2 : List Bool) (r3 : List (S46)) (r4 : Int) (r5 : List Bool) (r6 : List (S46)) (r7 : Int) (r8 : Int) (w0 w : World) (hI : IsS69 w0 w g s0_0 s0_1 s0_2) (hB : Below w0.heap.size w0 w) (h : spec_l14Any.f k s0_0 s0_1 s0_2 = some (r1, r2, r3, r4, r5, r6, r7, r8)) :
  Calls Try.prog 38 #[.pointer (some ⟨g, 0, none⟩)] w fun e w' => ∃ v1_ v2_ v4_ v5_ : Value, e = .returned (.tuple #[.agg #[.int .i64 r1, v1_, v2_], .agg #[.int .i64 r4, v4_, v5_]]) ∧ Kd.R Kd.bool 4 w' w.heap.size (fun k_ => some k_ ≠ (v4_ : Value).ownBlock) v1_ r2 ∧ Kd.R k46 46 w' w.heap.size (fun k_ => some k_ ≠ (v5_ : Value).ownBlock) v2_ r3 ∧ Kd.R Kd.bool 4 w' w.heap.size (fun k_ => some k_ ≠ (v1_ : Value).ownBlock) v4_ r5 ∧ Kd.R k46 46 w' w.heap.size (fun k_ => some k_ ≠ (v2_ : Value).ownBlock) v5_ r6 ∧ IsS69 w0 w' g s0_0 r7 r8 ∧ Below w0.heap.size w0 w' ∧ KeepBut w w' g none := by
 have hu27 := Try.underlying27
 have HI0 := aM hI
 have GI0 := aM (IsS69.ge hI)
 have HK := aM (KeepBut.refl w g none)
 have HL := aM hB.size
 clear hI
 have HW0 := aM hB.size
 have HB := aM hB
 clear hB
 have H : ((spec_l14Pair.f k s0_0 s0_1 s0_2).bind fun bt285 => ((spec_l1Below.f s0_0 bt285.2.2.2.2.2.2.1 bt285.2.2.2.2.2.2.2 6).bind fun bt303 => (if bt303.1 = 0 then ((spec_l13Any.f k s0_0 bt303.2.1 bt303.2.2).bind fun bt306 => (some (bt285.1, bt285.2.1, bt285.2.2.1, bt306.1, bt306.2.1, bt306.2.2.1, bt306.2.2.2.1, bt306.2.2.2.2))) else (if bt303.1 = 1 then ((spec_l13Any.f k s0_0 bt303.2.1 bt303.2.2).bind fun bt315 => (some (bt315.1, bt315.2.1, bt315.2.2.1, bt285.2.2.2.1, bt285.2.2.2.2.1, bt285.2.2.2.2.2.1, bt315.2.2.2.1, bt315.2.2.2.2))) else (some (bt285.1, bt285.2.1, bt285.2.2.1, bt285.2.2.2.1, bt285.2.2.2.2.1, bt285.2.2.2.2.2.1, bt303.2.1, bt303.2.2)))))) = some (r1, r2, r3, r4, r5, r6, r7, r8) := h
 clear h
 replace H := oB.mp H
 obtain ⟨⟨t285, t286, t289, t292, t293, t296, t299, t300⟩, A20, H⟩ := H
 dsimp only at H
 have A2 := aM A20
 clear A20
 replace H := oB.mp H
 obtain ⟨⟨t303, t304, t305⟩, A30, H⟩ := H
 dsimp only at H
 have A3 := aM A30
 clear A30
 by_cases c4 : t303 = 0
 ·rw [if_pos c4] at H
  have c4b0 : (t303 == 0) = true := beq_iff_eq.mpr c4
  have c4b1 : (t303 != 0) = false := bne_eq_false_iff_eq.mpr c4
  clear c4
  replace H := oB.mp H
  obtain ⟨⟨t306, t307, t310, t313, t314⟩, A50, H⟩ := H
  dsimp only at H
  have A5 := aM A50
  clear A50
  simp only [Option.some.injEq, Prod.mk.injEq] at H
  obtain ⟨rfl, rfl, rfl, rfl, rfl, rfl, rfl, rfl⟩ := H
  go_enter Try.func38, Try.ntmps38
  try go_wp2_with (first | ((with_reducible refine gD (N := 2) rfl ?_); refine box_event ?hg (N := 2) ?hd (cs := #[.int .i64 0, .slice none 0 0, .slice none 0 0]) (t := 27) ?hr ?_; (case hd => rfl); (case hg => rfl); (case hr => first | (go_simp; done) | (go_simp; rfl)); intro gb283 hg w6 hbox hb; replace HB := bS HB hb; have BK283 := aM (hbox); have GW283 := gK HK hg; have GE283 := gL HW0 GW283; replace HK := hkB HK hb; have NB0_283 := IsS69.nL HI0 hg; have NB283_0 := IsS69.nR HI0 hg; replace HI0 := aM (IsS69.below (spec_l14Any.zI69 HI0) hb); clear hb hbox hg) | ((with_reducible refine gD (N := 3) rfl ?_); refine box_event ?hg (N := 3) ?hd (cs := #[.int .i64 0, .slice none 0 0, .slice none 0 0]) (t := 27) ?hr ?_; (case hd => rfl); (case hg => rfl); (case hr => first | (go_simp; done) | (go_simp; rfl)); intro gb284 hg w7 hbox hb; replace HB := bS HB hb; have BK284 := aM (hbox); have GW284 := gK HK hg; have GE284 := gL HW0 GW284; replace HK := hkB HK hb; have NB283_284 := nL BK283 hg; have NB284_283 := nR BK283 hg; replace BK283 := kB BK283 hb; have NB0_284 := IsS69.nL HI0 hg; have NB284_0 := IsS69.nR HI0 hg; replace HI0 := aM (IsS69.below (spec_l14Any.zI69 HI0) hb); clear hb hbox hg) | ((with_reducible refine gC (f := 54) rfl ?_); refine goesL_ (some 8) rfl rfl Try.func54 (by kernel_rfl) rfl #[.pointer (some ⟨g, 0, none⟩)] rfl zG ?_; (with_reducible refine (spec_l14Pair.calls k g s0_0 s0_1 s0_2 t285 t286 t289 t292 t293 t296 t299 t300 w0 _ ?s1 ?s2 A2.o).mono ?_); (case s1 => exact spec_l14Any.zI69 HI0); (case s2 => exact zB HB); rintro e w8 ⟨v287, v290, v294, v297, rfl, ho0, ho1, ho2, ho3, hi, hb, hk⟩; refine ⟨_, rfl, ?_⟩; replace BK283 := kbT hk BK283 NB283_0; replace BK284 := kbT hk BK284 NB284_0; have HO288 := aM (rO ho0 (keep_size (w := w) (g := g) (row := none) (zH HK))); have HO291 := aM (rO ho1 (keep_size (w := w) (g := g) (row := none) (zH HK))); have HO295 := aM (rO ho2 (keep_size (w := w) (g := g) (row := none) (zH HK))); have HO298 := aM (rO ho3 (keep_size (w := w) (g := g) (row := none) (zH HK))); replace HK := hkT HK hk; replace HB := aM (hb); replace HI0 := aM (hi); (try clear hb); (try clear ho0); (try clear ho1); (try clear ho2); (try clear ho3)) | ((with_reducible refine gD (N := 4) rfl ?_); refine box_event ?hg (N := 4) ?hd (cs := #[.int .i64 0, .slice none 0 0, .slice none 0 0]) (t := 27) ?hr ?_; (case hd => rfl); (case hg => rfl); (case hr => first | (go_simp; done) | (go_simp; rfl)); intro gb301 hg w9 hbox hb; replace HO288 := aM (rW (zR HO288) hb); replace HO291 := aM (rW (zR HO291) hb); replace HO295 := aM (rW (zR HO295) hb); replace HO298 := aM (rW (zR HO298) hb); replace HB := bS HB hb; have BK301 := aM (hbox); have GW301 := gK HK hg; have GE301 := gL HW0 GW301; replace HK := hkB HK hb; have NB283_301 := nL BK283 hg; have NB301_283 := nR BK283 hg; replace BK283 := kB BK283 hb; have NB284_301 := nL BK284 hg; have NB301_284 := nR BK284 hg; replace BK284 := kB BK284 hb; have NB0_301 := IsS69.nL HI0 hg; have NB301_0 := IsS69.nR HI0 hg; replace HI0 := aM (IsS69.below (spec_l14Any.zI69 HI0) hb); clear hb hbox hg) | ((with_reducible refine gD (N := 5) rfl ?_); refine box_event ?hg (N := 5) ?hd (cs := #[.int .i64 0, .slice none 0 0, .slice none 0 0]) (t := 27) ?hr ?_; (case hd => rfl); (case hg => rfl); (case hr => first | (go_simp; done) | (go_simp; rfl)); intro gb302 hg w10 hbox hb; replace HO288 := aM (rW (zR HO288) hb); replace HO291 := aM (rW (zR HO291) hb); replace HO295 := aM (rW (zR HO295) hb); replace HO298 := aM (rW (zR HO298) hb); replace HB := bS HB hb; have BK302 := aM (hbox); have GW302 := gK HK hg; have GE302 := gL HW0 GW302; replace HK := hkB HK hb; have NB283_302 := nL BK283 hg; have NB302_283 := nR BK283 hg; replace BK283 := kB BK283 hb; have NB284_302 := nL BK284 hg; have NB302_284 := nR BK284 hg; replace BK284 := kB BK284 hb; have NB301_302 := nL BK301 hg; have NB302_301 := nR BK301 hg; replace BK301 := kB BK301 hb; have NB0_302 := IsS69.nL HI0 hg; have NB302_0 := IsS69.nR HI0 hg; replace HI0 := aM (IsS69.below (spec_l14Any.zI69 HI0) hb); clear hb hbox hg; have hnb11 := NB301_283.o; have hnc11 := NB283_301.o; have hnb12 := NB301_284.o; have hnc12 := NB284_301.o; have hnb13 := NB301_302.o; have hnc13 := NB302_301.o; have hnb14 := NB301_0.o; have hnc14 := NB0_301.o; obtain ⟨z15_0, z15_1, z15_2, f15_0, f15_1, f15_2⟩ := bq3 BK301; obtain ⟨Ao16, co16, eo16⟩ := rL HO288.o; subst eo16; obtain ⟨Ao17, co17, eo17⟩ := rL HO291.o; subst eo17; have hnb18 := NB302_283.o; have hnc18 := NB283_302.o; have hnb19 := NB302_284.o; have hnc19 := NB284_302.o; have hnb20 := NB302_0.o; have hnc20 := NB0_302.o; obtain ⟨z21_0, z21_1, z21_2, f21_0, f21_1, f21_2⟩ := bq3 BK302; obtain ⟨Ao22, co22, eo22⟩ := rL HO295.o; subst eo22; obtain ⟨Ao23, co23, eo23⟩ := rL HO298.o; subst eo23) | ((with_reducible refine gC (f := 33) rfl ?_); refine goesL_ (some 12) rfl rfl Try.func33 (by kernel_rfl) rfl #[.pointer (some ⟨g, 0, none⟩), .int .i64 6] rfl zG ?_; (with_reducible refine (spec_l1Below.calls g s0_0 t299 t300 6 t303 t304 t305 w0 _ ?s1 ?s2 A3.o).mono ?_); (case s1 => exact spec_l14Any.zI69 HI0); (case s2 => exact zB HB); rintro e w24 ⟨rfl, hi, hb, hk⟩; refine ⟨_, rfl, ?_⟩; replace BK283 := kbT hk BK283 NB283_0; replace BK284 := kbT hk BK284 NB284_0; replace HO288 := aM (rM (Kd.R_keep (IsS69.apart (show IsS69 w0 _ g s0_0 t299 t300 from spec_l14Any.zI69 HI0) (by (with_reducible repeat (first | apply rA | apply rN | apply rD)); exact (rM (rM (rB2 HO288 BK301 BK302) (fun _ h_ => h_.1)) (fun _ h_ => h_.1))) (by decide)) hk (fun _ h => h.2)) (fun _ h => h.1)); replace HO291 := aM (rM (Kd.R_keep (IsS69.apart (show IsS69 w0 _ g s0_0 t299 t300 from spec_l14Any.zI69 HI0) (by (with_reducible repeat (first | apply rA | apply rN | apply rD)); exact (rM (rM (rB2 HO291 BK301 BK302) (fun _ h_ => h_.1)) (fun _ h_ => h_.1))) (by decide)) hk (fun _ h => h.2)) (fun _ h => h.1)); replace HO295 := aM (rM (Kd.R_keep (IsS69.apart (show IsS69 w0 _ g s0_0 t299 t300 from spec_l14Any.zI69 HI0) (by (with_reducible repeat (first | apply rA | apply rN | apply rD)); exact (rM (rM (rB2 HO295 BK301 BK302) (fun _ h_ => h_.1)) (fun _ h_ => h_.1))) (by decide)) hk (fun _ h => h.2)) (fun _ h => h.1)); replace HO298 := aM (rM (Kd.R_keep (IsS69.apart (show IsS69 w0 _ g s0_0 t299 t300 from spec_l14Any.zI69 HI0) (by (with_reducible repeat (first | apply rA | apply rN | apply rD)); exact (rM (rM (rB2 HO298 BK301 BK302) (fun _ h_ => h_.1)) (fun _ h_ => h_.1))) (by decide)) hk (fun _ h => h.2)) (fun _ h => h.1)); replace BK301 := aM (KeepBut.blk hk (g' := gb301) (o := .cells #[.int .i64 t285, .slice Ao16 t286.length co16, .slice Ao17 t289.length co17] 27 (0, 0)) (by (with_reducible repeat (first | apply bN | apply bD | apply bA)); refine bF ?_ NB301_302.o _; (with_reducible repeat (first | apply bN | apply bD | apply bA)); refine bF ?_ NB301_302.o _; (with_reducible repeat (first | apply bN | apply bD | apply bA)); refine bF ?_ NB301_302.o _; (with_reducible repeat (first | apply bN | apply bD | apply bA)); refine bP (cs := #[.int .i64 t285, .slice Ao16 t286.length co16, .slice none 0 0]) ?_ 2 _ rfl; (with_reducible repeat (first | apply bN | apply bD | apply bA)); refine bP (cs := #[.int .i64 t285, .slice none 0 0, .slice none 0 0]) ?_ 1 _ rfl; (with_reducible repeat (first | apply bN | apply bD | apply bA)); refine bP (cs := #[.int .i64 0, .slice none 0 0, .slice none 0 0]) ?_ 0 _ rfl; (with_reducible repeat (first | apply bN | apply bD | apply bA)); exact BK301.o) NB301_0.o (by simp)); replace BK302 := aM (KeepBut.blk hk (g' := gb302) (o := .cells #[.int .i64 t292, .slice Ao22 t293.length co22, .slice Ao23 t296.length co23] 27 (0, 0)) (by (with_reducible repeat (first | apply bN | apply bD | apply bA)); refine bP (cs := #[.int .i64 t292, .slice Ao22 t293.length co22, .slice none 0 0]) ?_ 2 _ rfl; (with_reducible repeat (first | apply bN | apply bD | apply bA)); refine bP (cs := #[.int .i64 t292, .slice none 0 0, .slice none 0 0]) ?_ 1 _ rfl; (with_reducible repeat (first | apply bN | apply bD | apply bA)); refine bP (cs := #[.int .i64 0, .slice none 0 0, .slice none 0 0]) ?_ 0 _ rfl; (with_reducible repeat (first | apply bN | apply bD | apply bA)); refine bF ?_ NB302_301.o _; (with_reducible repeat (first | apply bN | apply bD | apply bA)); refine bF ?_ NB302_301.o _; (with_reducible repeat (first | apply bN | apply bD | apply bA)); refine bF ?_ NB302_301.o _; (with_reducible repeat (first | apply bN | apply bD | apply bA)); exact BK302.o) NB302_0.o (by simp)); replace HK := hkT HK hk; replace HB := aM (hb); replace HI0 := aM (hi); (try clear hb)))
  replace HO288 := aM (rD HO288.o)
  replace HO291 := aM (rD HO291.o)
  replace HO295 := aM (rD HO295.o)
  replace HO298 := aM (rD HO298.o)
  replace BK283 := aM (bD BK283.o)
  replace BK284 := aM (bD BK284.o)
  replace BK301 := aM (bD BK301.o)
  replace BK302 := aM (bD BK302.o)
  replace HI0 := aM (IsS69.drew HI0.o)
  replace HK := aM (keep_drew HK.o)
  replace HB := aM (below_drew1 HB.o)
  refine start_ (n := 5) (S := fun w' => w'.cell? ⟨gb301, 0, none⟩ = some (.int .i64 t285) ∧ w'.cell? ⟨gb301, 1, none⟩ = some (.slice Ao16 t286.length co16) ∧ w'.cell? ⟨gb301, 2, none⟩ = some (.slice Ao17 t289.length co17)) (ds := []) #[false, false, false, false, false] (by kernel_rfl) rfl rfl ⟨bc0 BK301, bc1 BK301, bc2 BK301⟩ (fun hK4 => ?_)
  generalize w24.drew = w25 at HO288 HO291 HO295 HO298 BK283 BK284 BK301 BK302 HI0 HK HB hK4 ⊢
  refine pure_ (i := 1) (N := some 16) (v := ?_) (a' := ?_) #[false, true, false, false, false] rfl rfl (by kernel_rfl) (fun _ _ _ h => h) (Or.inl ⟨by rfl, ?_⟩) ?_ ?_
  rotate_left
  ·intro w'
   go_simp
   with_reducible rfl
  rotate_left
  ·simp only [Act.put, lA, lB, lC, i64_w, i32_w]
   rfl
  refine take_ (i := 0) (N := some 15) (v := ?_) (a' := ?_) #[true, true, false, false, false] rfl rfl (by kernel_rfl) (fun _ _ _ h => h) (Or.inl ⟨by rfl, ?_⟩) hK4 ?_ ?_
  rotate_left
  ·rintro w' ⟨s0, s1, s2⟩
   go_simp
   with_reducible rfl
  rotate_left
  ·simp only [Act.put, lA, lB, lC, i64_w, i32_w]
   rfl
  refine one_ (i := 2) (N := some 17) #[true, true, true, false, false] rfl rfl (by kernel_rfl) (by decide) (fun K hK => ?_)
  refine goes_ Try.func55 (by kernel_rfl) rfl #[.pointer (some ⟨g, 0, none⟩)] (by rfl) rfl rfl zG ?_
  with_reducible refine (spec_l13Any.calls k g s0_0 t304 t305 t306 t307 t310 t313 t314 w0 _ ?s1 ?s2 A5.o).mono ?_
  (case s1 => exact spec_l14Any.zI69 HI0)
  (case s2 => exact zB HB)
  rintro e w26 ⟨v308, v311, rfl, ho0, ho1, hi, hb, hk⟩
  refine ⟨_, rfl, ?_⟩
  replace BK283 := kbT hk BK283 NB283_0
  replace BK284 := kbT hk BK284 NB284_0
  replace BK301 := kbT hk BK301 NB301_0
  replace BK302 := kbT hk BK302 NB302_0
  have HO309 := aM (rO (Kd.R_new' (Kd.R_new' ho0 (Kd.R_lt (zR HO288))) (Kd.R_lt (zR HO295))) (keep_size (w := w) (g := g) (row := none) (zH HK)))
  replace HO288 := aM (rM (Kd.R_told (Kd.R_oldK (IsS69.apart (show IsS69 w0 _ g s0_0 t304 t305 from spec_l14Any.zI69 HI0) (zR HO288) (by decide)) hk) (Kd.R_base ho0)) (fun _ h_ => h_.1))
  replace HO295 := aM (rM (Kd.R_told (Kd.R_oldK (IsS69.apart (show IsS69 w0 _ g s0_0 t304 t305 from spec_l14Any.zI69 HI0) (zR HO295) (by decide)) hk) (Kd.R_base ho0)) (fun _ h_ => h_.1))
  have HO312 := aM (rO (Kd.R_new' (Kd.R_new' ho1 (Kd.R_lt (zR HO291))) (Kd.R_lt (zR HO298))) (keep_size (w := w) (g := g) (row := none) (zH HK)))
  replace HO291 := aM (rM (Kd.R_told (Kd.R_oldK (IsS69.apart (show IsS69 w0 _ g s0_0 t304 t305 from spec_l14Any.zI69 HI0) (zR HO291) (by decide)) hk) (Kd.R_base ho1)) (fun _ h_ => h_.1))
  replace HO298 := aM (rM (Kd.R_told (Kd.R_oldK (IsS69.apart (show IsS69 w0 _ g s0_0 t304 t305 from spec_l14Any.zI69 HI0) (zR HO298) (by decide)) hk) (Kd.R_base ho1)) (fun _ h_ => h_.1))
  replace HK := hkT HK hk
  replace HB := aM (hb)
  replace HI0 := aM (hi)
  (try clear hb); (try clear hb2); (try clear hk); (try clear hi); (try clear ho0); (try clear ho1)
  obtain ⟨Ao31, co31, eo31⟩ := rL HO309.o
  (first | subst eo31 | (obtain ⟨f4_, f5_⟩ := slI eo31; subst f4_; subst f5_))
  obtain ⟨Ao33, co33, eo33⟩ := rL HO312.o
  (first | subst eo33 | (obtain ⟨f4_, f5_⟩ := slI eo33; subst f4_; subst f5_))
  refine hK.out _ _ ⟨bc0 BK301, bc1 BK301, bc2 BK301⟩ (fun hK4 => ?_)
  clear hK K
  refine nU 17 ?_
  refine one_ (i := 3) (N := none) #[true, true, true, true, false] rfl rfl (by kernel_rfl) (by decide) (fun K hK => ?_)
  have hs27 : w26.cell? ⟨gb283, 0, none⟩ = some (.int .i64 0) := bc0 BK283
  have hfs27 := bf BK283 0
  have hns27_1 := NB284_283.o
  have hns27_2 := NB301_283.o
  have hns27_3 := NB302_283.o
  have hms27_1 := NB283_284.o
  have hms27_2 := NB283_301.o
  have hms27_3 := NB283_302.o
  have hs28 : w26.cell? ⟨gb283, 1, none⟩ = some (.slice none 0 0) := bc1 BK283
  have hfs28 := bf BK283 1
  have hns28_1 := NB284_283.o
  have hns28_2 := NB301_283.o
  have hns28_3 := NB302_283.o
  have hms28_1 := NB283_284.o
  have hms28_2 := NB283_301.o
  have hms28_3 := NB283_302.o
  have hs29 : w26.cell? ⟨gb283, 2, none⟩ = some (.slice none 0 0) := bc2 BK283
  have hfs29 := bf BK283 2
  have hns29_1 := NB284_283.o
  have hns29_2 := NB301_283.o
  have hns29_3 := NB302_283.o
  have hms29_1 := NB283_284.o
  have hms29_2 := NB283_301.o
  have hms29_3 := NB283_302.o
  refine skip_ (w1 := ?_) (by rfl) rfl ?_ ?_
  rotate_left
  ·go_simp
   rfl
  refine hK.out _ _ ⟨((cF (p := ⟨gb283, _, none⟩) NB301_283.o _).trans (((cF (p := ⟨gb283, _, none⟩) NB301_283.o _).trans (((cF (p := ⟨gb283, _, none⟩) NB301_283.o _).trans (hK4.1)))))), ((cF (p := ⟨gb283, _, none⟩) NB301_283.o _).trans (((cF (p := ⟨gb283, _, none⟩) NB301_283.o _).trans (((cF (p := ⟨gb283, _, none⟩) NB301_283.o _).trans (hK4.2.1)))))), ((cF (p := ⟨gb283, _, none⟩) NB301_283.o _).trans (((cF (p := ⟨gb283, _, none⟩) NB301_283.o _).trans (((cF (p := ⟨gb283, _, none⟩) NB301_283.o _).trans (hK4.2.2))))))⟩ (fun hK4 => ?_)
  clear hK K
  refine one_ (i := 4) (N := none) #[true, true, true, true, true] rfl rfl (by kernel_rfl) (by decide) (fun K hK => ?_)
  have hs30 : w26.cell? ⟨gb284, 0, none⟩ = some (.int .i64 0) := bc0 BK284
  have hfs30 := bf BK284 0
  have hns30_0 := NB283_284.o
  have hns30_2 := NB301_284.o
  have hns30_3 := NB302_284.o
  have hms30_0 := NB284_283.o
  have hms30_2 := NB284_301.o
  have hms30_3 := NB284_302.o
  have hs32 : w26.cell? ⟨gb284, 1, none⟩ = some (.slice none 0 0) := bc1 BK284
  have hfs32 := bf BK284 1
  have hns32_0 := NB283_284.o
  have hns32_2 := NB301_284.o
  have hns32_3 := NB302_284.o
  have hms32_0 := NB284_283.o
  have hms32_2 := NB284_301.o
  have hms32_3 := NB284_302.o
  have hs34 : w26.cell? ⟨gb284, 2, none⟩ = some (.slice none 0 0) := bc2 BK284
  have hfs34 := bf BK284 2
  have hns34_0 := NB283_284.o
  have hns34_2 := NB301_284.o
  have hns34_3 := NB302_284.o
  have hms34_0 := NB284_283.o
  have hms34_2 := NB284_301.o
  have hms34_3 := NB284_302.o
  refine skip_ (w1 := ?_) (by rfl) rfl ?_ ?_
  rotate_left
  ·go_simp
   rfl
  refine hK.out _ _ ⟨((cF (p := ⟨gb284, _, none⟩) NB301_284.o _).trans (((cF (p := ⟨gb284, _, none⟩) NB301_284.o _).trans (((cF (p := ⟨gb284, _, none⟩) NB301_284.o _).trans (hK4.1)))))), ((cF (p := ⟨gb284, _, none⟩) NB301_284.o _).trans (((cF (p := ⟨gb284, _, none⟩) NB301_284.o _).trans (((cF (p := ⟨gb284, _, none⟩) NB301_284.o _).trans (hK4.2.1)))))), ((cF (p := ⟨gb284, _, none⟩) NB301_284.o _).trans (((cF (p := ⟨gb284, _, none⟩) NB301_284.o _).trans (((cF (p := ⟨gb284, _, none⟩) NB301_284.o _).trans (hK4.2.2))))))⟩ (fun hK4 => ?_)
  clear hK K
  refine done_ (by kernel_rfl) ?_
  try clear hK4
  try go_wp2
  refine bodyPost_ret (results_cc rfl _ _ gb283 gb284 27 27 #[.int .i64 t285, .slice Ao16 t286.length co16, .slice Ao17 t289.length co17] #[.int .i64 t306, .slice Ao31 t307.length co31, .slice Ao33 t310.length co33] (0, 0) (0, 0) _ _ rfl (by (with_reducible repeat (first | apply bN | apply bD | apply bA)); refine bF ?_ NB283_284.o _; (with_reducible repeat (first | apply bN | apply bD | apply bA)); refine bF ?_ NB283_284.o _; (with_reducible repeat (first | apply bN | apply bD | apply bA)); refine bF ?_ NB283_284.o _; (with_reducible repeat (first | apply bN | apply bD | apply bA)); refine bP (cs := #[.int .i64 t285, .slice Ao16 t286.length co16, .slice none 0 0]) ?_ 2 _ rfl; (with_reducible repeat (first | apply bN | apply bD | apply bA)); refine bP (cs := #[.int .i64 t285, .slice none 0 0, .slice none 0 0]) ?_ 1 _ rfl; (with_reducible repeat (first | apply bN | apply bD | apply bA)); refine bP (cs := #[.int .i64 0, .slice none 0 0, .slice none 0 0]) ?_ 0 _ rfl; (with_reducible repeat (first | apply bN | apply bD | apply bA)); exact BK283.o) Try.underlying27 rfl (by kernel_rfl) rfl (by (with_reducible repeat (first | apply bN | apply bD | apply bA)); refine bP (cs := #[.int .i64 t306, .slice Ao31 t307.length co31, .slice none 0 0]) ?_ 2 _ rfl; (with_reducible repeat (first | apply bN | apply bD | apply bA)); refine bP (cs := #[.int .i64 t306, .slice none 0 0, .slice none 0 0]) ?_ 1 _ rfl; (with_reducible repeat (first | apply bN | apply bD | apply bA)); refine bP (cs := #[.int .i64 0, .slice none 0 0, .slice none 0 0]) ?_ 0 _ rfl; (with_reducible repeat (first | apply bN | apply bD | apply bA)); refine bF ?_ NB284_283.o _; (with_reducible repeat (first | apply bN | apply bD | apply bA)); refine bF ?_ NB284_283.o _; (with_reducible repeat (first | apply bN | apply bD | apply bA)); refine bF ?_ NB284_283.o _; (with_reducible repeat (first | apply bN | apply bD | apply bA)); exact BK284.o) Try.underlying27 rfl (by kernel_rfl)) rfl ?_
  exact ⟨_, _, _, _, zE, rM (rB2 HO288 BK283 BK284) (fun _ hk => hk.1.1.2), rM (rB2 HO291 BK283 BK284) (fun _ hk => hk.1.1.2), rM (rB2 HO309 BK283 BK284) (fun _ hk => hk.1.1.1.2), rM (rB2 HO312 BK283 BK284) (fun _ hk => hk.1.1.1.2), spec_l14Any.zI69 HI0, zB HB, zH HK⟩
 ·rw [if_neg c4] at H
  have c4b0 : (t303 == 0) = false := beq_eq_false_iff_ne.mpr c4
  have c4b1 : (t303 != 0) = true := bne_iff_ne.mpr c4
  by_cases c35 : t303 = 1
  ·rw [if_pos c35] at H
   have c35b0 : (t303 == 1) = true := beq_iff_eq.mpr c35
   have c35b1 : (t303 != 1) = false := bne_eq_false_iff_eq.mpr c35
   clear c35
   replace H := oB.mp H
   obtain ⟨⟨t315, t316, t319, t322, t323⟩, A360, H⟩ := H
   dsimp only at H
   have A36 := aM A360
   clear A360
   simp only [Option.some.injEq, Prod.mk.injEq] at H
   obtain ⟨rfl, rfl, rfl, rfl, rfl, rfl, rfl, rfl⟩ := H
   go_enter Try.func38, Try.ntmps38
   try go_wp2_with (first | ((with_reducible refine gD (N := 2) rfl ?_); refine box_event ?hg (N := 2) ?hd (cs := #[.int .i64 0, .slice none 0 0, .slice none 0 0]) (t := 27) ?hr ?_; (case hd => rfl); (case hg => rfl); (case hr => first | (go_simp; done) | (go_simp; rfl)); intro gb283 hg w37 hbox hb; replace HB := bS HB hb; have BK283 := aM (hbox); have GW283 := gK HK hg; have GE283 := gL HW0 GW283; replace HK := hkB HK hb; have NB0_283 := IsS69.nL HI0 hg; have NB283_0 := IsS69.nR HI0 hg; replace HI0 := aM (IsS69.below (spec_l14Any.zI69 HI0) hb); clear hb hbox hg) | ((with_reducible refine gD (N := 3) rfl ?_); refine box_event ?hg (N := 3) ?hd (cs := #[.int .i64 0, .slice none 0 0, .slice none 0 0]) (t := 27) ?hr ?_; (case hd => rfl); (case hg => rfl); (case hr => first | (go_simp; done) | (go_simp; rfl)); intro gb284 hg w38 hbox hb; replace HB := bS HB hb; have BK284 := aM (hbox); have GW284 := gK HK hg; have GE284 := gL HW0 GW284; replace HK := hkB HK hb; have NB283_284 := nL BK283 hg; have NB284_283 := nR BK283 hg; replace BK283 := kB BK283 hb; have NB0_284 := IsS69.nL HI0 hg; have NB284_0 := IsS69.nR HI0 hg; replace HI0 := aM (IsS69.below (spec_l14Any.zI69 HI0) hb); clear hb hbox hg) | ((with_reducible refine gC (f := 54) rfl ?_); refine goesL_ (some 8) rfl rfl Try.func54 (by kernel_rfl) rfl #[.pointer (some ⟨g, 0, none⟩)] rfl zG ?_; (with_reducible refine (spec_l14Pair.calls k g s0_0 s0_1 s0_2 t285 t286 t289 t292 t293 t296 t299 t300 w0 _ ?s1 ?s2 A2.o).mono ?_); (case s1 => exact spec_l14Any.zI69 HI0); (case s2 => exact zB HB); rintro e w39 ⟨v287, v290, v294, v297, rfl, ho0, ho1, ho2, ho3, hi, hb, hk⟩; refine ⟨_, rfl, ?_⟩; replace BK283 := kbT hk BK283 NB283_0; replace BK284 := kbT hk BK284 NB284_0; have HO288 := aM (rO ho0 (keep_size (w := w) (g := g) (row := none) (zH HK))); have HO291 := aM (rO ho1 (keep_size (w := w) (g := g) (row := none) (zH HK))); have HO295 := aM (rO ho2 (keep_size (w := w) (g := g) (row := none) (zH HK))); have HO298 := aM (rO ho3 (keep_size (w := w) (g := g) (row := none) (zH HK))); replace HK := hkT HK hk; replace HB := aM (hb); replace HI0 := aM (hi); (try clear hb); (try clear ho0); (try clear ho1); (try clear ho2); (try clear ho3)) | ((with_reducible refine gD (N := 4) rfl ?_); refine box_event ?hg (N := 4) ?hd (cs := #[.int .i64 0, .slice none 0 0, .slice none 0 0]) (t := 27) ?hr ?_; (case hd => rfl); (case hg => rfl); (case hr => first | (go_simp; done) | (go_simp; rfl)); intro gb301 hg w40 hbox hb; replace HO288 := aM (rW (zR HO288) hb); replace HO291 := aM (rW (zR HO291) hb); replace HO295 := aM (rW (zR HO295) hb); replace HO298 := aM (rW (zR HO298) hb); replace HB := bS HB hb; have BK301 := aM (hbox); have GW301 := gK HK hg; have GE301 := gL HW0 GW301; replace HK := hkB HK hb; have NB283_301 := nL BK283 hg; have NB301_283 := nR BK283 hg; replace BK283 := kB BK283 hb; have NB284_301 := nL BK284 hg; have NB301_284 := nR BK284 hg; replace BK284 := kB BK284 hb; have NB0_301 := IsS69.nL HI0 hg; have NB301_0 := IsS69.nR HI0 hg; replace HI0 := aM (IsS69.below (spec_l14Any.zI69 HI0) hb); clear hb hbox hg) | ((with_reducible refine gD (N := 5) rfl ?_); refine box_event ?hg (N := 5) ?hd (cs := #[.int .i64 0, .slice none 0 0, .slice none 0 0]) (t := 27) ?hr ?_; (case hd => rfl); (case hg => rfl); (case hr => first | (go_simp; done) | (go_simp; rfl)); intro gb302 hg w41 hbox hb; replace HO288 := aM (rW (zR HO288) hb); replace HO291 := aM (rW (zR HO291) hb); replace HO295 := aM (rW (zR HO295) hb); replace HO298 := aM (rW (zR HO298) hb); replace HB := bS HB hb; have BK302 := aM (hbox); have GW302 := gK HK hg; have GE302 := gL HW0 GW302; replace HK := hkB HK hb; have NB283_302 := nL BK283 hg; have NB302_283 := nR BK283 hg; replace BK283 := kB BK283 hb; have NB284_302 := nL BK284 hg; have NB302_284 := nR BK284 hg; replace BK284 := kB BK284 hb; have NB301_302 := nL BK301 hg; have NB302_301 := nR BK301 hg; replace BK301 := kB BK301 hb; have NB0_302 := IsS69.nL HI0 hg; have NB302_0 := IsS69.nR HI0 hg; replace HI0 := aM (IsS69.below (spec_l14Any.zI69 HI0) hb); clear hb hbox hg; have hnb42 := NB301_283.o; have hnc42 := NB283_301.o; have hnb43 := NB301_284.o; have hnc43 := NB284_301.o; have hnb44 := NB301_302.o; have hnc44 := NB302_301.o; have hnb45 := NB301_0.o; have hnc45 := NB0_301.o; obtain ⟨z46_0, z46_1, z46_2, f46_0, f46_1, f46_2⟩ := bq3 BK301; obtain ⟨Ao47, co47, eo47⟩ := rL HO288.o; subst eo47; obtain ⟨Ao48, co48, eo48⟩ := rL HO291.o; subst eo48; have hnb49 := NB302_283.o; have hnc49 := NB283_302.o; have hnb50 := NB302_284.o; have hnc50 := NB284_302.o; have hnb51 := NB302_0.o; have hnc51 := NB0_302.o; obtain ⟨z52_0, z52_1, z52_2, f52_0, f52_1, f52_2⟩ := bq3 BK302; obtain ⟨Ao53, co53, eo53⟩ := rL HO295.o; subst eo53; obtain ⟨Ao54, co54, eo54⟩ := rL HO298.o; subst eo54) | ((with_reducible refine gC (f := 33) rfl ?_); refine goesL_ (some 12) rfl rfl Try.func33 (by kernel_rfl) rfl #[.pointer (some ⟨g, 0, none⟩), .int .i64 6] rfl zG ?_; (with_reducible refine (spec_l1Below.calls g s0_0 t299 t300 6 t303 t304 t305 w0 _ ?s1 ?s2 A3.o).mono ?_); (case s1 => exact spec_l14Any.zI69 HI0); (case s2 => exact zB HB); rintro e w55 ⟨rfl, hi, hb, hk⟩; refine ⟨_, rfl, ?_⟩; replace BK283 := kbT hk BK283 NB283_0; replace BK284 := kbT hk BK284 NB284_0; replace HO288 := aM (rM (Kd.R_keep (IsS69.apart (show IsS69 w0 _ g s0_0 t299 t300 from spec_l14Any.zI69 HI0) (by (with_reducible repeat (first | apply rA | apply rN | apply rD)); exact (rM (rM (rB2 HO288 BK301 BK302) (fun _ h_ => h_.1)) (fun _ h_ => h_.1))) (by decide)) hk (fun _ h => h.2)) (fun _ h => h.1)); replace HO291 := aM (rM (Kd.R_keep (IsS69.apart (show IsS69 w0 _ g s0_0 t299 t300 from spec_l14Any.zI69 HI0) (by (with_reducible repeat (first | apply rA | apply rN | apply rD)); exact (rM (rM (rB2 HO291 BK301 BK302) (fun _ h_ => h_.1)) (fun _ h_ => h_.1))) (by decide)) hk (fun _ h => h.2)) (fun _ h => h.1)); replace HO295 := aM (rM (Kd.R_keep (IsS69.apart (show IsS69 w0 _ g s0_0 t299 t300 from spec_l14Any.zI69 HI0) (by (with_reducible repeat (first | apply rA | apply rN | apply rD)); exact (rM (rM (rB2 HO295 BK301 BK302) (fun _ h_ => h_.1)) (fun _ h_ => h_.1))) (by decide)) hk (fun _ h => h.2)) (fun _ h => h.1)); replace HO298 := aM (rM (Kd.R_keep (IsS69.apart (show IsS69 w0 _ g s0_0 t299 t300 from spec_l14Any.zI69 HI0) (by (with_reducible repeat (first | apply rA | apply rN | apply rD)); exact (rM (rM (rB2 HO298 BK301 BK302) (fun _ h_ => h_.1)) (fun _ h_ => h_.1))) (by decide)) hk (fun _ h => h.2)) (fun _ h => h.1)); replace BK301 := aM (KeepBut.blk hk (g' := gb301) (o := .cells #[.int .i64 t285, .slice Ao47 t286.length co47, .slice Ao48 t289.length co48] 27 (0, 0)) (by (with_reducible repeat (first | apply bN | apply bD | apply bA)); refine bF ?_ NB301_302.o _; (with_reducible repeat (first | apply bN | apply bD | apply bA)); refine bF ?_ NB301_302.o _; (with_reducible repeat (first | apply bN | apply bD | apply bA)); refine bF ?_ NB301_302.o _; (with_reducible repeat (first | apply bN | apply bD | apply bA)); refine bP (cs := #[.int .i64 t285, .slice Ao47 t286.length co47, .slice none 0 0]) ?_ 2 _ rfl; (with_reducible repeat (first | apply bN | apply bD | apply bA)); refine bP (cs := #[.int .i64 t285, .slice none 0 0, .slice none 0 0]) ?_ 1 _ rfl; (with_reducible repeat (first | apply bN | apply bD | apply bA)); refine bP (cs := #[.int .i64 0, .slice none 0 0, .slice none 0 0]) ?_ 0 _ rfl; (with_reducible repeat (first | apply bN | apply bD | apply bA)); exact BK301.o) NB301_0.o (by simp)); replace BK302 := aM (KeepBut.blk hk (g' := gb302) (o := .cells #[.int .i64 t292, .slice Ao53 t293.length co53, .slice Ao54 t296.length co54] 27 (0, 0)) (by (with_reducible repeat (first | apply bN | apply bD | apply bA)); refine bP (cs := #[.int .i64 t292, .slice Ao53 t293.length co53, .slice none 0 0]) ?_ 2 _ rfl; (with_reducible repeat (first | apply bN | apply bD | apply bA)); refine bP (cs := #[.int .i64 t292, .slice none 0 0, .slice none 0 0]) ?_ 1 _ rfl; (with_reducible repeat (first | apply bN | apply bD | apply bA)); refine bP (cs := #[.int .i64 0, .slice none 0 0, .slice none 0 0]) ?_ 0 _ rfl; (with_reducible repeat (first | apply bN | apply bD | apply bA)); refine bF ?_ NB302_301.o _; (with_reducible repeat (first | apply bN | apply bD | apply bA)); refine bF ?_ NB302_301.o _; (with_reducible repeat (first | apply bN | apply bD | apply bA)); refine bF ?_ NB302_301.o _; (with_reducible repeat (first | apply bN | apply bD | apply bA)); exact BK302.o) NB302_0.o (by simp)); replace HK := hkT HK hk; replace HB := aM (hb); replace HI0 := aM (hi); (try clear hb)))
   replace HO288 := aM (rD HO288.o)
   replace HO291 := aM (rD HO291.o)
   replace HO295 := aM (rD HO295.o)
   replace HO298 := aM (rD HO298.o)
   replace BK283 := aM (bD BK283.o)
   replace BK284 := aM (bD BK284.o)
   replace BK301 := aM (bD BK301.o)
   replace BK302 := aM (bD BK302.o)
   replace HI0 := aM (IsS69.drew HI0.o)
   replace HK := aM (keep_drew HK.o)
   replace HB := aM (below_drew1 HB.o)
   refine start_ (n := 5) (S := fun w' => w'.cell? ⟨gb302, 0, none⟩ = some (.int .i64 t292) ∧ w'.cell? ⟨gb302, 1, none⟩ = some (.slice Ao53 t293.length co53) ∧ w'.cell? ⟨gb302, 2, none⟩ = some (.slice Ao54 t296.length co54)) (ds := []) #[false, false, false, false, false] (by kernel_rfl) rfl rfl ⟨bc0 BK302, bc1 BK302, bc2 BK302⟩ (fun hK4 => ?_)
   generalize w55.drew = w56 at HO288 HO291 HO295 HO298 BK283 BK284 BK301 BK302 HI0 HK HB hK4 ⊢
   refine pure_ (i := 0) (N := some 20) (v := ?_) (a' := ?_) #[true, false, false, false, false] rfl rfl (by kernel_rfl) (fun _ _ _ h => h) (Or.inl ⟨by rfl, ?_⟩) ?_ ?_
   rotate_left
   ·intro w'
    go_simp
    with_reducible rfl
   rotate_left
   ·simp only [Act.put, lA, lB, lC, i64_w, i32_w]
    rfl
   refine take_ (i := 2) (N := some 22) (v := ?_) (a' := ?_) #[true, false, true, false, false] rfl rfl (by kernel_rfl) (fun _ _ _ h => h) (Or.inl ⟨by rfl, ?_⟩) hK4 ?_ ?_
   rotate_left
   ·rintro w' ⟨s0, s1, s2⟩
    go_simp
    with_reducible rfl
   rotate_left
   ·simp only [Act.put, lA, lB, lC, i64_w, i32_w]
    rfl
   refine one_ (i := 1) (N := some 21) #[true, true, true, false, false] rfl rfl (by kernel_rfl) (by decide) (fun K hK => ?_)
   refine goes_ Try.func55 (by kernel_rfl) rfl #[.pointer (some ⟨g, 0, none⟩)] (by rfl) rfl rfl zG ?_
   with_reducible refine (spec_l13Any.calls k g s0_0 t304 t305 t315 t316 t319 t322 t323 w0 _ ?s1 ?s2 A36.o).mono ?_
   (case s1 => exact spec_l14Any.zI69 HI0)
   (case s2 => exact zB HB)
   rintro e w57 ⟨v317, v320, rfl, ho0, ho1, hi, hb, hk⟩
   refine ⟨_, rfl, ?_⟩
   replace BK283 := kbT hk BK283 NB283_0
   replace BK284 := kbT hk BK284 NB284_0
   replace BK301 := kbT hk BK301 NB301_0
   replace BK302 := kbT hk BK302 NB302_0
   have HO318 := aM (rO (Kd.R_new' (Kd.R_new' ho0 (Kd.R_lt (zR HO288))) (Kd.R_lt (zR HO295))) (keep_size (w := w) (g := g) (row := none) (zH HK)))
   replace HO288 := aM (rM (Kd.R_told (Kd.R_oldK (IsS69.apart (show IsS69 w0 _ g s0_0 t304 t305 from spec_l14Any.zI69 HI0) (zR HO288) (by decide)) hk) (Kd.R_base ho0)) (fun _ h_ => h_.1))
   replace HO295 := aM (rM (Kd.R_told (Kd.R_oldK (IsS69.apart (show IsS69 w0 _ g s0_0 t304 t305 from spec_l14Any.zI69 HI0) (zR HO295) (by decide)) hk) (Kd.R_base ho0)) (fun _ h_ => h_.1))
   have HO321 := aM (rO (Kd.R_new' (Kd.R_new' ho1 (Kd.R_lt (zR HO291))) (Kd.R_lt (zR HO298))) (keep_size (w := w) (g := g) (row := none) (zH HK)))
   replace HO291 := aM (rM (Kd.R_told (Kd.R_oldK (IsS69.apart (show IsS69 w0 _ g s0_0 t304 t305 from spec_l14Any.zI69 HI0) (zR HO291) (by decide)) hk) (Kd.R_base ho1)) (fun _ h_ => h_.1))
   replace HO298 := aM (rM (Kd.R_told (Kd.R_oldK (IsS69.apart (show IsS69 w0 _ g s0_0 t304 t305 from spec_l14Any.zI69 HI0) (zR HO298) (by decide)) hk) (Kd.R_base ho1)) (fun _ h_ => h_.1))
   replace HK := hkT HK hk
   replace HB := aM (hb)
   replace HI0 := aM (hi)
   (try clear hb); (try clear hb2); (try clear hk); (try clear hi); (try clear ho0); (try clear ho1)
   obtain ⟨Ao59, co59, eo59⟩ := rL HO318.o
   (first | subst eo59 | (obtain ⟨f4_, f5_⟩ := slI eo59; subst f4_; subst f5_))
   obtain ⟨Ao61, co61, eo61⟩ := rL HO321.o
   (first | subst eo61 | (obtain ⟨f4_, f5_⟩ := slI eo61; subst f4_; subst f5_))
   refine hK.out _ _ ⟨bc0 BK302, bc1 BK302, bc2 BK302⟩ (fun hK4 => ?_)
   clear hK K
   refine nU 21 ?_
   refine one_ (i := 3) (N := none) #[true, true, true, true, false] rfl rfl (by kernel_rfl) (by decide) (fun K hK => ?_)
   have hs58 : w57.cell? ⟨gb283, 0, none⟩ = some (.int .i64 0) := bc0 BK283
   have hfs58 := bf BK283 0
   have hns58_1 := NB284_283.o
   have hns58_2 := NB301_283.o
   have hns58_3 := NB302_283.o
   have hms58_1 := NB283_284.o
   have hms58_2 := NB283_301.o
   have hms58_3 := NB283_302.o
   have hs60 : w57.cell? ⟨gb283, 1, none⟩ = some (.slice none 0 0) := bc1 BK283
   have hfs60 := bf BK283 1
   have hns60_1 := NB284_283.o
   have hns60_2 := NB301_283.o
   have hns60_3 := NB302_283.o
   have hms60_1 := NB283_284.o
   have hms60_2 := NB283_301.o
   have hms60_3 := NB283_302.o
   have hs62 : w57.cell? ⟨gb283, 2, none⟩ = some (.slice none 0 0) := bc2 BK283
   have hfs62 := bf BK283 2
   have hns62_1 := NB284_283.o
   have hns62_2 := NB301_283.o
   have hns62_3 := NB302_283.o
   have hms62_1 := NB283_284.o
   have hms62_2 := NB283_301.o
   have hms62_3 := NB283_302.o
   refine skip_ (w1 := ?_) (by rfl) rfl ?_ ?_
   rotate_left
   ·go_simp
    rfl
   refine hK.out _ _ ⟨((cF (p := ⟨gb283, _, none⟩) NB302_283.o _).trans (((cF (p := ⟨gb283, _, none⟩) NB302_283.o _).trans (((cF (p := ⟨gb283, _, none⟩) NB302_283.o _).trans (hK4.1)))))), ((cF (p := ⟨gb283, _, none⟩) NB302_283.o _).trans (((cF (p := ⟨gb283, _, none⟩) NB302_283.o _).trans (((cF (p := ⟨gb283, _, none⟩) NB302_283.o _).trans (hK4.2.1)))))), ((cF (p := ⟨gb283, _, none⟩) NB302_283.o _).trans (((cF (p := ⟨gb283, _, none⟩) NB302_283.o _).trans (((cF (p := ⟨gb283, _, none⟩) NB302_283.o _).trans (hK4.2.2))))))⟩ (fun hK4 => ?_)
   clear hK K
   refine one_ (i := 4) (N := none) #[true, true, true, true, true] rfl rfl (by kernel_rfl) (by decide) (fun K hK => ?_)
   have hs63 : w57.cell? ⟨gb284, 0, none⟩ = some (.int .i64 0) := bc0 BK284
   have hfs63 := bf BK284 0
   have hns63_0 := NB283_284.o
   have hns63_2 := NB301_284.o
   have hns63_3 := NB302_284.o
   have hms63_0 := NB284_283.o
   have hms63_2 := NB284_301.o
   have hms63_3 := NB284_302.o
   have hs64 : w57.cell? ⟨gb284, 1, none⟩ = some (.slice none 0 0) := bc1 BK284
   have hfs64 := bf BK284 1
   have hns64_0 := NB283_284.o
   have hns64_2 := NB301_284.o
   have hns64_3 := NB302_284.o
   have hms64_0 := NB284_283.o
   have hms64_2 := NB284_301.o
   have hms64_3 := NB284_302.o
   have hs65 : w57.cell? ⟨gb284, 2, none⟩ = some (.slice none 0 0) := bc2 BK284
   have hfs65 := bf BK284 2
   have hns65_0 := NB283_284.o
   have hns65_2 := NB301_284.o
   have hns65_3 := NB302_284.o
   have hms65_0 := NB284_283.o
   have hms65_2 := NB284_301.o
   have hms65_3 := NB284_302.o
   refine skip_ (w1 := ?_) (by rfl) rfl ?_ ?_
   rotate_left
   ·go_simp
    rfl
   refine hK.out _ _ ⟨((cF (p := ⟨gb284, _, none⟩) NB302_284.o _).trans (((cF (p := ⟨gb284, _, none⟩) NB302_284.o _).trans (((cF (p := ⟨gb284, _, none⟩) NB302_284.o _).trans (hK4.1)))))), ((cF (p := ⟨gb284, _, none⟩) NB302_284.o _).trans (((cF (p := ⟨gb284, _, none⟩) NB302_284.o _).trans (((cF (p := ⟨gb284, _, none⟩) NB302_284.o _).trans (hK4.2.1)))))), ((cF (p := ⟨gb284, _, none⟩) NB302_284.o _).trans (((cF (p := ⟨gb284, _, none⟩) NB302_284.o _).trans (((cF (p := ⟨gb284, _, none⟩) NB302_284.o _).trans (hK4.2.2))))))⟩ (fun hK4 => ?_)
   clear hK K
   refine done_ (by kernel_rfl) ?_
   try clear hK4
   try go_wp2
   refine bodyPost_ret (results_cc rfl _ _ gb283 gb284 27 27 #[.int .i64 t315, .slice Ao59 t316.length co59, .slice Ao61 t319.length co61] #[.int .i64 t292, .slice Ao53 t293.length co53, .slice Ao54 t296.length co54] (0, 0) (0, 0) _ _ rfl (by (with_reducible repeat (first | apply bN | apply bD | apply bA)); refine bF ?_ NB283_284.o _; (with_reducible repeat (first | apply bN | apply bD | apply bA)); refine bF ?_ NB283_284.o _; (with_reducible repeat (first | apply bN | apply bD | apply bA)); refine bF ?_ NB283_284.o _; (with_reducible repeat (first | apply bN | apply bD | apply bA)); refine bP (cs := #[.int .i64 t315, .slice Ao59 t316.length co59, .slice none 0 0]) ?_ 2 _ rfl; (with_reducible repeat (first | apply bN | apply bD | apply bA)); refine bP (cs := #[.int .i64 t315, .slice none 0 0, .slice none 0 0]) ?_ 1 _ rfl; (with_reducible repeat (first | apply bN | apply bD | apply bA)); refine bP (cs := #[.int .i64 0, .slice none 0 0, .slice none 0 0]) ?_ 0 _ rfl; (with_reducible repeat (first | apply bN | apply bD | apply bA)); exact BK283.o) Try.underlying27 rfl (by kernel_rfl) rfl (by (with_reducible repeat (first | apply bN | apply bD | apply bA)); refine bP (cs := #[.int .i64 t292, .slice Ao53 t293.length co53, .slice none 0 0]) ?_ 2 _ rfl; (with_reducible repeat (first | apply bN | apply bD | apply bA)); refine bP (cs := #[.int .i64 t292, .slice none 0 0, .slice none 0 0]) ?_ 1 _ rfl; (with_reducible repeat (first | apply bN | apply bD | apply bA)); refine bP (cs := #[.int .i64 0, .slice none 0 0, .slice none 0 0]) ?_ 0 _ rfl; (with_reducible repeat (first | apply bN | apply bD | apply bA)); refine bF ?_ NB284_283.o _; (with_reducible repeat (first | apply bN | apply bD | apply bA)); refine bF ?_ NB284_283.o _; (with_reducible repeat (first | apply bN | apply bD | apply bA)); refine bF ?_ NB284_283.o _; (with_reducible repeat (first | apply bN | apply bD | apply bA)); exact BK284.o) Try.underlying27 rfl (by kernel_rfl)) rfl ?_
   exact ⟨_, _, _, _, zE, rM (rB2 HO318 BK283 BK284) (fun _ hk => hk.1.1.2), rM (rB2 HO321 BK283 BK284) (fun _ hk => hk.1.1.2), rM (rB2 HO295 BK283 BK284) (fun _ hk => hk.1.1.2), rM (rB2 HO298 BK283 BK284) (fun _ hk => hk.1.1.2), spec_l14Any.zI69 HI0, zB HB, zH HK⟩
  ·rw [if_neg c35] at H
   have c35b0 : (t303 == 1) = false := beq_eq_false_iff_ne.mpr c35
   have c35b1 : (t303 != 1) = true := bne_iff_ne.mpr c35
   simp only [Option.some.injEq, Prod.mk.injEq] at H
   obtain ⟨rfl, rfl, rfl, rfl, rfl, rfl, rfl, rfl⟩ := H
   go_enter Try.func38, Try.ntmps38
   try go_wp2_with (first | ((with_reducible refine gD (N := 2) rfl ?_); refine box_event ?hg (N := 2) ?hd (cs := #[.int .i64 0, .slice none 0 0, .slice none 0 0]) (t := 27) ?hr ?_; (case hd => rfl); (case hg => rfl); (case hr => first | (go_simp; done) | (go_simp; rfl)); intro gb283 hg w66 hbox hb; replace HB := bS HB hb; have BK283 := aM (hbox); have GW283 := gK HK hg; have GE283 := gL HW0 GW283; replace HK := hkB HK hb; have NB0_283 := IsS69.nL HI0 hg; have NB283_0 := IsS69.nR HI0 hg; replace HI0 := aM (IsS69.below (spec_l14Any.zI69 HI0) hb); clear hb hbox hg) | ((with_reducible refine gD (N := 3) rfl ?_); refine box_event ?hg (N := 3) ?hd (cs := #[.int .i64 0, .slice none 0 0, .slice none 0 0]) (t := 27) ?hr ?_; (case hd => rfl); (case hg => rfl); (case hr => first | (go_simp; done) | (go_simp; rfl)); intro gb284 hg w67 hbox hb; replace HB := bS HB hb; have BK284 := aM (hbox); have GW284 := gK HK hg; have GE284 := gL HW0 GW284; replace HK := hkB HK hb; have NB283_284 := nL BK283 hg; have NB284_283 := nR BK283 hg; replace BK283 := kB BK283 hb; have NB0_284 := IsS69.nL HI0 hg; have NB284_0 := IsS69.nR HI0 hg; replace HI0 := aM (IsS69.below (spec_l14Any.zI69 HI0) hb); clear hb hbox hg) | ((with_reducible refine gC (f := 54) rfl ?_); refine goesL_ (some 8) rfl rfl Try.func54 (by kernel_rfl) rfl #[.pointer (some ⟨g, 0, none⟩)] rfl zG ?_; (with_reducible refine (spec_l14Pair.calls k g s0_0 s0_1 s0_2 t285 t286 t289 t292 t293 t296 t299 t300 w0 _ ?s1 ?s2 A2.o).mono ?_); (case s1 => exact spec_l14Any.zI69 HI0); (case s2 => exact zB HB); rintro e w68 ⟨v287, v290, v294, v297, rfl, ho0, ho1, ho2, ho3, hi, hb, hk⟩; refine ⟨_, rfl, ?_⟩; replace BK283 := kbT hk BK283 NB283_0; replace BK284 := kbT hk BK284 NB284_0; have HO288 := aM (rO ho0 (keep_size (w := w) (g := g) (row := none) (zH HK))); have HO291 := aM (rO ho1 (keep_size (w := w) (g := g) (row := none) (zH HK))); have HO295 := aM (rO ho2 (keep_size (w := w) (g := g) (row := none) (zH HK))); have HO298 := aM (rO ho3 (keep_size (w := w) (g := g) (row := none) (zH HK))); replace HK := hkT HK hk; replace HB := aM (hb); replace HI0 := aM (hi); (try clear hb); (try clear ho0); (try clear ho1); (try clear ho2); (try clear ho3)) | ((with_reducible refine gD (N := 4) rfl ?_); refine box_event ?hg (N := 4) ?hd (cs := #[.int .i64 0, .slice none 0 0, .slice none 0 0]) (t := 27) ?hr ?_; (case hd => rfl); (case hg => rfl); (case hr => first | (go_simp; done) | (go_simp; rfl)); intro gb301 hg w69 hbox hb; replace HO288 := aM (rW (zR HO288) hb); replace HO291 := aM (rW (zR HO291) hb); replace HO295 := aM (rW (zR HO295) hb); replace HO298 := aM (rW (zR HO298) hb); replace HB := bS HB hb; have BK301 := aM (hbox); have GW301 := gK HK hg; have GE301 := gL HW0 GW301; replace HK := hkB HK hb; have NB283_301 := nL BK283 hg; have NB301_283 := nR BK283 hg; replace BK283 := kB BK283 hb; have NB284_301 := nL BK284 hg; have NB301_284 := nR BK284 hg; replace BK284 := kB BK284 hb; have NB0_301 := IsS69.nL HI0 hg; have NB301_0 := IsS69.nR HI0 hg; replace HI0 := aM (IsS69.below (spec_l14Any.zI69 HI0) hb); clear hb hbox hg) | ((with_reducible refine gD (N := 5) rfl ?_); refine box_event ?hg (N := 5) ?hd (cs := #[.int .i64 0, .slice none 0 0, .slice none 0 0]) (t := 27) ?hr ?_; (case hd => rfl); (case hg => rfl); (case hr => first | (go_simp; done) | (go_simp; rfl)); intro gb302 hg w70 hbox hb; replace HO288 := aM (rW (zR HO288) hb); replace HO291 := aM (rW (zR HO291) hb); replace HO295 := aM (rW (zR HO295) hb); replace HO298 := aM (rW (zR HO298) hb); replace HB := bS HB hb; have BK302 := aM (hbox); have GW302 := gK HK hg; have GE302 := gL HW0 GW302; replace HK := hkB HK hb; have NB283_302 := nL BK283 hg; have NB302_283 := nR BK283 hg; replace BK283 := kB BK283 hb; have NB284_302 := nL BK284 hg; have NB302_284 := nR BK284 hg; replace BK284 := kB BK284 hb; have NB301_302 := nL BK301 hg; have NB302_301 := nR BK301 hg; replace BK301 := kB BK301 hb; have NB0_302 := IsS69.nL HI0 hg; have NB302_0 := IsS69.nR HI0 hg; replace HI0 := aM (IsS69.below (spec_l14Any.zI69 HI0) hb); clear hb hbox hg; have hnb71 := NB301_283.o; have hnc71 := NB283_301.o; have hnb72 := NB301_284.o; have hnc72 := NB284_301.o; have hnb73 := NB301_302.o; have hnc73 := NB302_301.o; have hnb74 := NB301_0.o; have hnc74 := NB0_301.o; obtain ⟨z75_0, z75_1, z75_2, f75_0, f75_1, f75_2⟩ := bq3 BK301; obtain ⟨Ao76, co76, eo76⟩ := rL HO288.o; subst eo76; obtain ⟨Ao77, co77, eo77⟩ := rL HO291.o; subst eo77; have hnb78 := NB302_283.o; have hnc78 := NB283_302.o; have hnb79 := NB302_284.o; have hnc79 := NB284_302.o; have hnb80 := NB302_0.o; have hnc80 := NB0_302.o; obtain ⟨z81_0, z81_1, z81_2, f81_0, f81_1, f81_2⟩ := bq3 BK302; obtain ⟨Ao82, co82, eo82⟩ := rL HO295.o; subst eo82; obtain ⟨Ao83, co83, eo83⟩ := rL HO298.o; subst eo83) | ((with_reducible refine gC (f := 33) rfl ?_); refine goesL_ (some 12) rfl rfl Try.func33 (by kernel_rfl) rfl #[.pointer (some ⟨g, 0, none⟩), .int .i64 6] rfl zG ?_; (with_reducible refine (spec_l1Below.calls g s0_0 t299 t300 6 t303 t304 t305 w0 _ ?s1 ?s2 A3.o).mono ?_); (case s1 => exact spec_l14Any.zI69 HI0); (case s2 => exact zB HB); rintro e w84 ⟨rfl, hi, hb, hk⟩; refine ⟨_, rfl, ?_⟩; replace BK283 := kbT hk BK283 NB283_0; replace BK284 := kbT hk BK284 NB284_0; replace HO288 := aM (rM (Kd.R_keep (IsS69.apart (show IsS69 w0 _ g s0_0 t299 t300 from spec_l14Any.zI69 HI0) (by (with_reducible repeat (first | apply rA | apply rN | apply rD)); exact (rM (rM (rB2 HO288 BK301 BK302) (fun _ h_ => h_.1)) (fun _ h_ => h_.1))) (by decide)) hk (fun _ h => h.2)) (fun _ h => h.1)); replace HO291 := aM (rM (Kd.R_keep (IsS69.apart (show IsS69 w0 _ g s0_0 t299 t300 from spec_l14Any.zI69 HI0) (by (with_reducible repeat (first | apply rA | apply rN | apply rD)); exact (rM (rM (rB2 HO291 BK301 BK302) (fun _ h_ => h_.1)) (fun _ h_ => h_.1))) (by decide)) hk (fun _ h => h.2)) (fun _ h => h.1)); replace HO295 := aM (rM (Kd.R_keep (IsS69.apart (show IsS69 w0 _ g s0_0 t299 t300 from spec_l14Any.zI69 HI0) (by (with_reducible repeat (first | apply rA | apply rN | apply rD)); exact (rM (rM (rB2 HO295 BK301 BK302) (fun _ h_ => h_.1)) (fun _ h_ => h_.1))) (by decide)) hk (fun _ h => h.2)) (fun _ h => h.1)); replace HO298 := aM (rM (Kd.R_keep (IsS69.apart (show IsS69 w0 _ g s0_0 t299 t300 from spec_l14Any.zI69 HI0) (by (with_reducible repeat (first | apply rA | apply rN | apply rD)); exact (rM (rM (rB2 HO298 BK301 BK302) (fun _ h_ => h_.1)) (fun _ h_ => h_.1))) (by decide)) hk (fun _ h => h.2)) (fun _ h => h.1)); replace BK301 := aM (KeepBut.blk hk (g' := gb301) (o := .cells #[.int .i64 t285, .slice Ao76 t286.length co76, .slice Ao77 t289.length co77] 27 (0, 0)) (by (with_reducible repeat (first | apply bN | apply bD | apply bA)); refine bF ?_ NB301_302.o _; (with_reducible repeat (first | apply bN | apply bD | apply bA)); refine bF ?_ NB301_302.o _; (with_reducible repeat (first | apply bN | apply bD | apply bA)); refine bF ?_ NB301_302.o _; (with_reducible repeat (first | apply bN | apply bD | apply bA)); refine bP (cs := #[.int .i64 t285, .slice Ao76 t286.length co76, .slice none 0 0]) ?_ 2 _ rfl; (with_reducible repeat (first | apply bN | apply bD | apply bA)); refine bP (cs := #[.int .i64 t285, .slice none 0 0, .slice none 0 0]) ?_ 1 _ rfl; (with_reducible repeat (first | apply bN | apply bD | apply bA)); refine bP (cs := #[.int .i64 0, .slice none 0 0, .slice none 0 0]) ?_ 0 _ rfl; (with_reducible repeat (first | apply bN | apply bD | apply bA)); exact BK301.o) NB301_0.o (by simp)); replace BK302 := aM (KeepBut.blk hk (g' := gb302) (o := .cells #[.int .i64 t292, .slice Ao82 t293.length co82, .slice Ao83 t296.length co83] 27 (0, 0)) (by (with_reducible repeat (first | apply bN | apply bD | apply bA)); refine bP (cs := #[.int .i64 t292, .slice Ao82 t293.length co82, .slice none 0 0]) ?_ 2 _ rfl; (with_reducible repeat (first | apply bN | apply bD | apply bA)); refine bP (cs := #[.int .i64 t292, .slice none 0 0, .slice none 0 0]) ?_ 1 _ rfl; (with_reducible repeat (first | apply bN | apply bD | apply bA)); refine bP (cs := #[.int .i64 0, .slice none 0 0, .slice none 0 0]) ?_ 0 _ rfl; (with_reducible repeat (first | apply bN | apply bD | apply bA)); refine bF ?_ NB302_301.o _; (with_reducible repeat (first | apply bN | apply bD | apply bA)); refine bF ?_ NB302_301.o _; (with_reducible repeat (first | apply bN | apply bD | apply bA)); refine bF ?_ NB302_301.o _; (with_reducible repeat (first | apply bN | apply bD | apply bA)); exact BK302.o) NB302_0.o (by simp)); replace HK := hkT HK hk; replace HB := aM (hb); replace HI0 := aM (hi); (try clear hb)))
   replace HO288 := aM (rD HO288.o)
   replace HO291 := aM (rD HO291.o)
   replace HO295 := aM (rD HO295.o)
   replace HO298 := aM (rD HO298.o)
   replace BK283 := aM (bD BK283.o)
   replace BK284 := aM (bD BK284.o)
   replace BK301 := aM (bD BK301.o)
   replace BK302 := aM (bD BK302.o)
   replace HI0 := aM (IsS69.drew HI0.o)
   replace HK := aM (keep_drew HK.o)
   replace HB := aM (below_drew1 HB.o)
   refine start_ (n := 4) (S := fun w' => w'.cell? ⟨gb301, 0, none⟩ = some (.int .i64 t285) ∧ w'.cell? ⟨gb301, 1, none⟩ = some (.slice Ao76 t286.length co76) ∧ w'.cell? ⟨gb301, 2, none⟩ = some (.slice Ao77 t289.length co77) ∧ w'.cell? ⟨gb302, 0, none⟩ = some (.int .i64 t292) ∧ w'.cell? ⟨gb302, 1, none⟩ = some (.slice Ao82 t293.length co82) ∧ w'.cell? ⟨gb302, 2, none⟩ = some (.slice Ao83 t296.length co83)) (ds := []) #[false, false, false, false] (by kernel_rfl) rfl rfl ⟨bc0 BK301, bc1 BK301, bc2 BK301, bc0 BK302, bc1 BK302, bc2 BK302⟩ (fun hK4 => ?_)
   generalize w84.drew = w85 at HO288 HO291 HO295 HO298 BK283 BK284 BK301 BK302 HI0 HK HB hK4 ⊢
   refine take_ (i := 0) (N := some 23) (v := ?_) (a' := ?_) #[true, false, false, false] rfl rfl (by kernel_rfl) (fun _ _ _ h => h) (Or.inl ⟨by rfl, ?_⟩) hK4 ?_ ?_
   rotate_left
   ·rintro w' ⟨s0, s1, s2, s3, s4, s5⟩
    go_simp
    with_reducible rfl
   rotate_left
   ·simp only [Act.put, lA, lB, lC, i64_w, i32_w]
    rfl
   refine take_ (i := 1) (N := some 24) (v := ?_) (a' := ?_) #[true, true, false, false] rfl rfl (by kernel_rfl) (fun _ _ _ h => h) (Or.inl ⟨by rfl, ?_⟩) hK4 ?_ ?_
   rotate_left
   ·rintro w' ⟨s0, s1, s2, s3, s4, s5⟩
    go_simp
    with_reducible rfl
   rotate_left
   ·simp only [Act.put, lA, lB, lC, i64_w, i32_w]
    rfl
   refine one_ (i := 2) (N := none) #[true, true, true, false] rfl rfl (by kernel_rfl) (by decide) (fun K hK => ?_)
   have hs86 : w85.cell? ⟨gb283, 0, none⟩ = some (.int .i64 0) := bc0 BK283
   have hfs86 := bf BK283 0
   have hns86_1 := NB284_283.o
   have hns86_2 := NB301_283.o
   have hns86_3 := NB302_283.o
   have hms86_1 := NB283_284.o
   have hms86_2 := NB283_301.o
   have hms86_3 := NB283_302.o
   have hs87 : w85.cell? ⟨gb283, 1, none⟩ = some (.slice none 0 0) := bc1 BK283
   have hfs87 := bf BK283 1
   have hns87_1 := NB284_283.o
   have hns87_2 := NB301_283.o
   have hns87_3 := NB302_283.o
   have hms87_1 := NB283_284.o
   have hms87_2 := NB283_301.o
   have hms87_3 := NB283_302.o
   have hs88 : w85.cell? ⟨gb283, 2, none⟩ = some (.slice none 0 0) := bc2 BK283
   have hfs88 := bf BK283 2
   have hns88_1 := NB284_283.o
   have hns88_2 := NB301_283.o
   have hns88_3 := NB302_283.o
   have hms88_1 := NB283_284.o
   have hms88_2 := NB283_301.o
   have hms88_3 := NB283_302.o
   refine skip_ (w1 := ?_) (by rfl) rfl ?_ ?_
   rotate_left
   ·go_simp
    rfl
   refine hK.out _ _ ⟨((cF (p := ⟨gb283, _, none⟩) NB301_283.o _).trans (((cF (p := ⟨gb283, _, none⟩) NB301_283.o _).trans (((cF (p := ⟨gb283, _, none⟩) NB301_283.o _).trans (hK4.1)))))), ((cF (p := ⟨gb283, _, none⟩) NB301_283.o _).trans (((cF (p := ⟨gb283, _, none⟩) NB301_283.o _).trans (((cF (p := ⟨gb283, _, none⟩) NB301_283.o _).trans (hK4.2.1)))))), ((cF (p := ⟨gb283, _, none⟩) NB301_283.o _).trans (((cF (p := ⟨gb283, _, none⟩) NB301_283.o _).trans (((cF (p := ⟨gb283, _, none⟩) NB301_283.o _).trans (hK4.2.2.1)))))), ((cF (p := ⟨gb283, _, none⟩) NB302_283.o _).trans (((cF (p := ⟨gb283, _, none⟩) NB302_283.o _).trans (((cF (p := ⟨gb283, _, none⟩) NB302_283.o _).trans (hK4.2.2.2.1)))))), ((cF (p := ⟨gb283, _, none⟩) NB302_283.o _).trans (((cF (p := ⟨gb283, _, none⟩) NB302_283.o _).trans (((cF (p := ⟨gb283, _, none⟩) NB302_283.o _).trans (hK4.2.2.2.2.1)))))), ((cF (p := ⟨gb283, _, none⟩) NB302_283.o _).trans (((cF (p := ⟨gb283, _, none⟩) NB302_283.o _).trans (((cF (p := ⟨gb283, _, none⟩) NB302_283.o _).trans (hK4.2.2.2.2.2))))))⟩ (fun hK4 => ?_)
   clear hK K
   refine one_ (i := 3) (N := none) #[true, true, true, true] rfl rfl (by kernel_rfl) (by decide) (fun K hK => ?_)
   have hs89 : w85.cell? ⟨gb284, 0, none⟩ = some (.int .i64 0) := bc0 BK284
   have hfs89 := bf BK284 0
   have hns89_0 := NB283_284.o
   have hns89_2 := NB301_284.o
   have hns89_3 := NB302_284.o
   have hms89_0 := NB284_283.o
   have hms89_2 := NB284_301.o
   have hms89_3 := NB284_302.o
   have hs90 : w85.cell? ⟨gb284, 1, none⟩ = some (.slice none 0 0) := bc1 BK284
   have hfs90 := bf BK284 1
   have hns90_0 := NB283_284.o
   have hns90_2 := NB301_284.o
   have hns90_3 := NB302_284.o
   have hms90_0 := NB284_283.o
   have hms90_2 := NB284_301.o
   have hms90_3 := NB284_302.o
   have hs91 : w85.cell? ⟨gb284, 2, none⟩ = some (.slice none 0 0) := bc2 BK284
   have hfs91 := bf BK284 2
   have hns91_0 := NB283_284.o
   have hns91_2 := NB301_284.o
   have hns91_3 := NB302_284.o
   have hms91_0 := NB284_283.o
   have hms91_2 := NB284_301.o
   have hms91_3 := NB284_302.o
   refine skip_ (w1 := ?_) (by rfl) rfl ?_ ?_
   rotate_left
   ·go_simp
    rfl
   refine hK.out _ _ ⟨((cF (p := ⟨gb284, _, none⟩) NB301_284.o _).trans (((cF (p := ⟨gb284, _, none⟩) NB301_284.o _).trans (((cF (p := ⟨gb284, _, none⟩) NB301_284.o _).trans (hK4.1)))))), ((cF (p := ⟨gb284, _, none⟩) NB301_284.o _).trans (((cF (p := ⟨gb284, _, none⟩) NB301_284.o _).trans (((cF (p := ⟨gb284, _, none⟩) NB301_284.o _).trans (hK4.2.1)))))), ((cF (p := ⟨gb284, _, none⟩) NB301_284.o _).trans (((cF (p := ⟨gb284, _, none⟩) NB301_284.o _).trans (((cF (p := ⟨gb284, _, none⟩) NB301_284.o _).trans (hK4.2.2.1)))))), ((cF (p := ⟨gb284, _, none⟩) NB302_284.o _).trans (((cF (p := ⟨gb284, _, none⟩) NB302_284.o _).trans (((cF (p := ⟨gb284, _, none⟩) NB302_284.o _).trans (hK4.2.2.2.1)))))), ((cF (p := ⟨gb284, _, none⟩) NB302_284.o _).trans (((cF (p := ⟨gb284, _, none⟩) NB302_284.o _).trans (((cF (p := ⟨gb284, _, none⟩) NB302_284.o _).trans (hK4.2.2.2.2.1)))))), ((cF (p := ⟨gb284, _, none⟩) NB302_284.o _).trans (((cF (p := ⟨gb284, _, none⟩) NB302_284.o _).trans (((cF (p := ⟨gb284, _, none⟩) NB302_284.o _).trans (hK4.2.2.2.2.2))))))⟩ (fun hK4 => ?_)
   clear hK K
   refine done_ (by kernel_rfl) ?_
   try clear hK4
   try go_wp2
   refine bodyPost_ret (results_cc rfl _ _ gb283 gb284 27 27 #[.int .i64 t285, .slice Ao76 t286.length co76, .slice Ao77 t289.length co77] #[.int .i64 t292, .slice Ao82 t293.length co82, .slice Ao83 t296.length co83] (0, 0) (0, 0) _ _ rfl (by (with_reducible repeat (first | apply bN | apply bD | apply bA)); refine bF ?_ NB283_284.o _; (with_reducible repeat (first | apply bN | apply bD | apply bA)); refine bF ?_ NB283_284.o _; (with_reducible repeat (first | apply bN | apply bD | apply bA)); refine bF ?_ NB283_284.o _; (with_reducible repeat (first | apply bN | apply bD | apply bA)); refine bP (cs := #[.int .i64 t285, .slice Ao76 t286.length co76, .slice none 0 0]) ?_ 2 _ rfl; (with_reducible repeat (first | apply bN | apply bD | apply bA)); refine bP (cs := #[.int .i64 t285, .slice none 0 0, .slice none 0 0]) ?_ 1 _ rfl; (with_reducible repeat (first | apply bN | apply bD | apply bA)); refine bP (cs := #[.int .i64 0, .slice none 0 0, .slice none 0 0]) ?_ 0 _ rfl; (with_reducible repeat (first | apply bN | apply bD | apply bA)); exact BK283.o) Try.underlying27 rfl (by kernel_rfl) rfl (by (with_reducible repeat (first | apply bN | apply bD | apply bA)); refine bP (cs := #[.int .i64 t292, .slice Ao82 t293.length co82, .slice none 0 0]) ?_ 2 _ rfl; (with_reducible repeat (first | apply bN | apply bD | apply bA)); refine bP (cs := #[.int .i64 t292, .slice none 0 0, .slice none 0 0]) ?_ 1 _ rfl; (with_reducible repeat (first | apply bN | apply bD | apply bA)); refine bP (cs := #[.int .i64 0, .slice none 0 0, .slice none 0 0]) ?_ 0 _ rfl; (with_reducible repeat (first | apply bN | apply bD | apply bA)); refine bF ?_ NB284_283.o _; (with_reducible repeat (first | apply bN | apply bD | apply bA)); refine bF ?_ NB284_283.o _; (with_reducible repeat (first | apply bN | apply bD | apply bA)); refine bF ?_ NB284_283.o _; (with_reducible repeat (first | apply bN | apply bD | apply bA)); exact BK284.o) Try.underlying27 rfl (by kernel_rfl)) rfl ?_
   exact ⟨_, _, _, _, zE, rM (rB2 HO288 BK283 BK284) (fun _ hk => hk.1.1), rM (rB2 HO291 BK283 BK284) (fun _ hk => hk.1.1), rM (rB2 HO295 BK283 BK284) (fun _ hk => hk.1.1), rM (rB2 HO298 BK283 BK284) (fun _ hk => hk.1.1), spec_l14Any.zI69 HI0, zB HB, zH HK⟩

/-! ### spec_DrawPairsOf: function 19 -/
def spec_DrawPairsOf.f (k : Nat) (l0 : List Int) : Option (Int × List Bool × (List (S46)) × Int × List Bool × (List (S46))) := (spec_l1New.f k l0).bind fun bt326 => ((spec_l14Any.f k bt326.1 bt326.2.1 bt326.2.2).bind fun bt330 => (some (bt330.1, bt330.2.1, bt330.2.2.1, bt330.2.2.2.1, bt330.2.2.2.2.1, bt330.2.2.2.2.2.1)))
theorem spec_DrawPairsOf.mono : ∀ a0 k, LeO (spec_DrawPairsOf.f k a0) (spec_DrawPairsOf.f (k + 1) a0) := by
 intro a0 k
 unfold spec_DrawPairsOf.f
 repeat' first
   | (with_reducible first | exact spec_l14Any.mono _ _ _ _ | exact spec_l1New.mono _ _ | exact LeO.refl _ | exact LeO.none _ | refine LeO.ite ?_ ?_ | refine LeO.bind ?_ (fun _ => ?_))
   | exact spec_l14Any.mono _ _ _ _
   | exact spec_l1New.mono _ _
   | exact LeO.none _
   | refine LeO.ite ?_ ?_
   | refine LeO.bind ?_ (fun _ => ?_)
set_option maxHeartbeats 8000000 in
set_option maxRecDepth 100000 in
theorem spec_DrawPairsOf.calls (k : Nat) (A0 : Option Addr) (c0 : Nat) (l0 : List Int) (r1 : Int) (r2 : List Bool) (r3 : List (S46)) (r4 : Int) (r5 : List Bool) (r6 : List (S46)) (w : World) (hr0 : Kd.C (Kd.int .u8) w A0 l0.length l0) (hc0 : l0.length ≤ c0) (h : spec_DrawPairsOf.f k l0 = some (r1, r2, r3, r4, r5, r6)) :
  Calls Try.prog 19 #[.slice A0 l0.length c0] w fun e w' => ∃ v1_ v2_ v4_ v5_ : Value, e = .returned (.tuple #[.agg #[.int .i64 r1, v1_, v2_], .agg #[.int .i64 r4, v4_, v5_]]) ∧ Kd.R Kd.bool 4 w' w.heap.size (fun k_ => some k_ ≠ (v4_ : Value).ownBlock) v1_ r2 ∧ Kd.R k46 46 w' w.heap.size (fun k_ => some k_ ≠ (v5_ : Value).ownBlock) v2_ r3 ∧ Kd.R Kd.bool 4 w' w.heap.size (fun k_ => some k_ ≠ (v1_ : Value).ownBlock) v4_ r5 ∧ Kd.R k46 46 w' w.heap.size (fun k_ => some k_ ≠ (v2_ : Value).ownBlock) v5_ r6 ∧ Below w.heap.size w w' := by
 have hu27 := Try.underlying27
 have HR0 := aM hr0
 have HC0 := aM hc0
 clear hr0 hc0
 have HB := aM (Below.refl w.heap.size w)
 have H : ((spec_l1New.f k l0).bind fun bt326 => ((spec_l14Any.f k bt326.1 bt326.2.1 bt326.2.2).bind fun bt330 => (some (bt330.1, bt330.2.1, bt330.2.2.1, bt330.2.2.2.1, bt330.2.2.2.2.1, bt330.2.2.2.2.2.1)))) = some (r1, r2, r3, r4, r5, r6) := h
 clear h
 replace H := oB.mp H
 obtain ⟨⟨t326, t327, t328⟩, A20, H⟩ := H
 dsimp only at H
 have A2 := aM A20
 clear A20
 replace H := oB.mp H
 obtain ⟨⟨t330, t331, t334, t337, t338, t341, t344, t345⟩, A30, H⟩ := H
 dsimp only at H
 have A3 := aM A30
 clear A30
 simp only [Option.some.injEq, Prod.mk.injEq] at H
 obtain ⟨rfl, rfl, rfl, rfl, rfl, rfl⟩ := H
 go_enter Try.func19, Try.ntmps19
 go_wp2_with (first | ((with_reducible refine gD (N := 2) rfl ?_); refine box_event ?hg (N := 2) ?hd (cs := #[.int .i64 0, .slice none 0 0, .slice none 0 0]) (t := 27) ?hr ?_; (case hd => rfl); (case hg => rfl); (case hr => first | (go_simp; done) | (go_simp; rfl)); intro gb324 hg w4 hbox hb; have BK324 := aM (hbox); have GW324 := gS HB hg; have GE324 := gS HB hg; replace HB := bS HB hb; clear hb hbox hg) | ((with_reducible refine gD (N := 3) rfl ?_); refine box_event ?hg (N := 3) ?hd (cs := #[.int .i64 0, .slice none 0 0, .slice none 0 0]) (t := 27) ?hr ?_; (case hd => rfl); (case hg => rfl); (case hr => first | (go_simp; done) | (go_simp; rfl)); intro gb325 hg w5 hbox hb; have BK325 := aM (hbox); have GW325 := gS HB hg; have GE325 := gS HB hg; replace HB := bS HB hb; have NB324_325 := nL BK324 hg; have NB325_324 := nR BK324 hg; replace BK324 := kB BK324 hb; clear hb hbox hg) | ((with_reducible refine gC (f := 30) rfl ?_); refine goesL_ (some 6) rfl rfl Try.func30 (by kernel_rfl) rfl #[.slice A0 l0.length c0] rfl zG ?_; (with_reducible refine (spec_l1New.calls k _ _ l0 t326 t327 t328 w _ ?s1 ?s2 ?s3 A2.o).mono ?_); (case s1 => exact zB HB); (case s2 => exact HR0.o); (case s3 => exact HC0.o); rintro e w6 ⟨g329, rfl, hi, hb, hb2⟩; refine ⟨_, rfl, ?_⟩; replace HB := aM (hb); have HI329 := aM (hi); have NB329_324 := aM (IsS69.ne_blk hi (blk_below (g := gb324) (o := .cells #[.int .i64 0, .slice none 0 0, .slice none 0 0] 27 (0, 0)) (zK BK324) hb2) (by decide)); have NB324_329 := aM (Ne.symm (IsS69.ne_blk hi (blk_below (g := gb324) (o := .cells #[.int .i64 0, .slice none 0 0, .slice none 0 0] 27 (0, 0)) (zK BK324) hb2) (by decide))); replace BK324 := aM (blk_below (g := gb324) (o := .cells #[.int .i64 0, .slice none 0 0, .slice none 0 0] 27 (0, 0)) (zK BK324) hb2); have NB329_325 := aM (IsS69.ne_blk hi (blk_below (g := gb325) (o := .cells #[.int .i64 0, .slice none 0 0, .slice none 0 0] 27 (0, 0)) (zK BK325) hb2) (by decide)); have NB325_329 := aM (Ne.symm (IsS69.ne_blk hi (blk_below (g := gb325) (o := .cells #[.int .i64 0, .slice none 0 0, .slice none 0 0] 27 (0, 0)) (zK BK325) hb2) (by decide))); replace BK325 := aM (blk_below (g := gb325) (o := .cells #[.int .i64 0, .slice none 0 0, .slice none 0 0] 27 (0, 0)) (zK BK325) hb2); (try clear hb)) | ((with_reducible refine gC (f := 38) rfl ?_); refine goesL_ (some 8) rfl rfl Try.func38 (by kernel_rfl) rfl #[.pointer (some ⟨g329, 0, none⟩)] rfl zG ?_; (with_reducible refine (spec_l14Any.calls k g329 t326 t327 t328 t330 t331 t334 t337 t338 t341 t344 t345 w _ ?s1 ?s2 A3.o).mono ?_); (case s1 => repeat (first | (with_reducible first | exact HI329.o | apply IsS69.alloc | apply IsS69.drewN | apply IsS69.drew | apply IsS69.set_1 | apply IsS69.set_2 | refine IsS69.far ?_ NB329_324.o _ | refine IsS69.far ?_ NB329_325.o _) | exact HI329.o)); (case s2 => exact zB HB); rintro e w7 ⟨v332, v335, v339, v342, rfl, ho0, ho1, ho2, ho3, hi, hb, hk⟩; refine ⟨_, rfl, ?_⟩; replace BK324 := kbT hk BK324 NB324_329; replace BK325 := kbT hk BK325 NB325_329; have HO333 := aM (rO ho0 (bZ (zB HB))); have HO336 := aM (rO ho1 (bZ (zB HB))); have HO340 := aM (rO ho2 (bZ (zB HB))); have HO343 := aM (rO ho3 (bZ (zB HB))); replace HB := aM (hb); replace HI329 := aM (hi); (try clear hb); (try clear ho0); (try clear ho1); (try clear ho2); (try clear ho3); have hnb8 := NB324_325.o; have hnc8 := NB325_324.o; have hnb9 := NB324_329.o; have hnc9 := NB329_324.o; obtain ⟨z10_0, z10_1, z10_2, f10_0, f10_1, f10_2⟩ := bq3 BK324; obtain ⟨Ao11, co11, eo11⟩ := rL HO333.o; subst eo11; obtain ⟨Ao12, co12, eo12⟩ := rL HO336.o; subst eo12; have hnb13 := NB325_329.o; have hnc13 := NB329_325.o; obtain ⟨z14_0, z14_1, z14_2, f14_0, f14_1, f14_2⟩ := bq3 BK325; obtain ⟨Ao15, co15, eo15⟩ := rL HO340.o; subst eo15; obtain ⟨Ao16, co16, eo16⟩ := rL HO343.o; subst eo16))
 refine bodyPost_ret (results_cc rfl _ _ gb324 gb325 27 27 #[.int .i64 t330, .slice Ao11 t331.length co11, .slice Ao12 t334.length co12] #[.int .i64 t337, .slice Ao15 t338.length co15, .slice Ao16 t341.length co16] (0, 0) (0, 0) _ _ rfl (by (with_reducible repeat (first | apply bN | apply bD | apply bA)); refine bF ?_ NB324_325.o _; (with_reducible repeat (first | apply bN | apply bD | apply bA)); refine bF ?_ NB324_325.o _; (with_reducible repeat (first | apply bN | apply bD | apply bA)); refine bF ?_ NB324_325.o _; (with_reducible repeat (first | apply bN | apply bD | apply bA)); refine bP (cs := #[.int .i64 t330, .slice Ao11 t331.length co11, .slice none 0 0]) ?_ 2 _ rfl; (with_reducible repeat (first | apply bN | apply bD | apply bA)); refine bP (cs := #[.int .i64 t330, .slice none 0 0, .slice none 0 0]) ?_ 1 _ rfl; (with_reducible repeat (first | apply bN | apply bD | apply bA)); refine bP (cs := #[.int .i64 0, .slice none 0 0, .slice none 0 0]) ?_ 0 _ rfl; (with_reducible repeat (first | apply bN | apply bD | apply bA)); exact BK324.o) Try.underlying27 rfl (by kernel_rfl) rfl (by (with_reducible repeat (first | apply bN | apply bD | apply bA)); refine bP (cs := #[.int .i64 t337, .slice Ao15 t338.length co15, .slice none 0 0]) ?_ 2 _ rfl; (with_reducible repeat (first | apply bN | apply bD | apply bA)); refine bP (cs := #[.int .i64 t337, .slice none 0 0, .slice none 0 0]) ?_ 1 _ rfl; (with_reducible repeat (first | apply bN | apply bD | apply bA)); refine bP (cs := #[.int .i64 0, .slice none 0 0, .slice none 0 0]) ?_ 0 _ rfl; (with_reducible repeat (first | apply bN | apply bD | apply bA)); refine bF ?_ NB325_324.o _; (with_reducible repeat (first | apply bN | apply bD | apply bA)); refine bF ?_ NB325_324.o _; (with_reducible repeat (first | apply bN | apply bD | apply bA)); refine bF ?_ NB325_324.o _; (with_reducible repeat (first | apply bN | apply bD | apply bA)); exact BK325.o) Try.underlying27 rfl (by kernel_rfl)) rfl ?_
 exact ⟨_, _, _, _, zE, rM (rB2 HO333 BK324 BK325) (fun _ hk => hk.1.1), rM (rB2 HO336 BK324 BK325) (fun _ hk => hk.1.1), rM (rB2 HO340 BK324 BK325) (fun _ hk => hk.1.1), rM (rB2 HO343 BK324 BK325) (fun _ hk => hk.1.1), zB HB⟩

/-! ### spec_DrawIsSafe: function 6 -/
def spec_DrawIsSafe.f (k : Nat) (l0 : List Int) : Option (Int × List Bool × (List (S46)) × Int × List Bool × (List (S46))) := (spec_DrawPairsOf.f k l0).bind fun bt348 => (some (bt348.1, bt348.2.1, bt348.2.2.1, bt348.2.2.2.1, bt348.2.2.2.2.1, bt348.2.2.2.2.2))
theorem spec_DrawIsSafe.mono : ∀ a0 k, LeO (spec_DrawIsSafe.f k a0) (spec_DrawIsSafe.f (k + 1) a0) := by
 intro a0 k
 unfold spec_DrawIsSafe.f
 repeat' first
   | (with_reducible first | exact spec_DrawPairsOf.mono _ _ | exact LeO.refl _ | exact LeO.none _ | refine LeO.ite ?_ ?_ | refine LeO.bind ?_ (fun _ => ?_))
   | exact spec_DrawPairsOf.mono _ _
   | exact LeO.none _
   | refine LeO.ite ?_ ?_
   | refine LeO.bind ?_ (fun _ => ?_)
set_option maxHeartbeats 8000000 in
set_option maxRecDepth 100000 in
theorem spec_DrawIsSafe.calls (k : Nat) (A0 : Option Addr) (c0 : Nat) (l0 : List Int) (r1 : Int) (r2 : List Bool) (r3 : List (S46)) (r4 : Int) (r5 : List Bool) (r6 : List (S46)) (w : World) (hr0 : Kd.C (Kd.int .u8) w A0 l0.length l0) (hc0 : l0.length ≤ c0) (h : spec_DrawIsSafe.f k l0 = some (r1, r2, r3, r4, r5, r6)) :
  Calls Try.prog 6 #[.slice A0 l0.length c0] w fun e w' => ∃ v1_ v2_ v4_ v5_ : Value, e = .returned (.tuple #[.agg #[.int .i64 r1, v1_, v2_], .agg #[.int .i64 r4, v4_, v5_]]) ∧ Kd.R Kd.bool 4 w' w.heap.size (fun k_ => some k_ ≠ (v4_ : Value).ownBlock) v1_ r2 ∧ Kd.R k46 46 w' w.heap.size (fun k_ => some k_ ≠ (v5_ : Value).ownBlock) v2_ r3 ∧ Kd.R Kd.bool 4 w' w.heap.size (fun k_ => some k_ ≠ (v1_ : Value).ownBlock) v4_ r5 ∧ Kd.R k46 46 w' w.heap.size (fun k_ => some k_ ≠ (v2_ : Value).ownBlock) v5_ r6 ∧ Below w.heap.size w w' := by
 have hu27 := Try.underlying27
 have HR0 := aM hr0
 have HC0 := aM hc0
 clear hr0 hc0
 have HB := aM (Below.refl w.heap.size w)
 have H : ((spec_DrawPairsOf.f k l0).bind fun bt348 => (some (bt348.1, bt348.2.1, bt348.2.2.1, bt348.2.2.2.1, bt348.2.2.2.2.1, bt348.2.2.2.2.2))) = some (r1, r2, r3, r4, r5, r6) := h
 clear h
 replace H := oB.mp H
 obtain ⟨⟨t348, t349, t352, t355, t356, t359⟩, A20, H⟩ := H
 dsimp only at H
 have A2 := aM A20
 clear A20
 simp only [Option.some.injEq, Prod.mk.injEq] at H
 obtain ⟨rfl, rfl, rfl, rfl, rfl, rfl⟩ := H
 go_enter Try.func6, Try.ntmps6
 go_wp2_with (first | ((with_reducible refine gD (N := 2) rfl ?_); refine box_event ?hg (N := 2) ?hd (cs := #[.int .i64 0, .slice none 0 0, .slice none 0 0]) (t := 27) ?hr ?_; (case hd => rfl); (case hg => rfl); (case hr => first | (go_simp; done) | (go_simp; rfl)); intro gb346 hg w3 hbox hb; have BK346 := aM (hbox); have GW346 := gS HB hg; have GE346 := gS HB hg; replace HB := bS HB hb; clear hb hbox hg) | ((with_reducible refine gD (N := 3) rfl ?_); refine box_event ?hg (N := 3) ?hd (cs := #[.int .i64 0, .slice none 0 0, .slice none 0 0]) (t := 27) ?hr ?_; (case hd => rfl); (case hg => rfl); (case hr => first | (go_simp; done) | (go_simp; rfl)); intro gb347 hg w4 hbox hb; have BK347 := aM (hbox); have GW347 := gS HB hg; have GE347 := gS HB hg; replace HB := bS HB hb; have NB346_347 := nL BK346 hg; have NB347_346 := nR BK346 hg; replace BK346 := kB BK346 hb; clear hb hbox hg) | ((with_reducible refine gC (f := 19) rfl ?_); refine goesL_ (some 5) rfl rfl Try.func19 (by kernel_rfl) rfl #[.slice A0 l0.length c0] rfl zG ?_; (with_reducible refine (spec_DrawPairsOf.calls k _ _ l0 t348 t349 t352 t355 t356 t359 _ ?s1 ?s2 A2.o).mono ?_); (case s1 => exact cS HR0 HB); (case s2 => exact HC0.o); rintro e w5 ⟨v350, v353, v357, v360, rfl, ho0, ho1, ho2, ho3, hb⟩; refine ⟨_, rfl, ?_⟩; have HO351 := aM (rO ho0 (bZ (zB HB))); have HO354 := aM (rO ho1 (bZ (zB HB))); have HO358 := aM (rO ho2 (bZ (zB HB))); have HO361 := aM (rO ho3 (bZ (zB HB))); replace BK346 := kB BK346 hb; replace BK347 := kB BK347 hb; replace HB := bS HB hb; (try clear hb); (try clear ho0); (try clear ho1); (try clear ho2); (try clear ho3); have hnb6 := NB346_347.o; have hnc6 := NB347_346.o; obtain ⟨z7_0, z7_1, z7_2, f7_0, f7_1, f7_2⟩ := bq3 BK346; obtain ⟨Ao8, co8, eo8⟩ := rL HO351.o; subst eo8; obtain ⟨Ao9, co9, eo9⟩ := rL HO354.o; subst eo9; obtain ⟨z10_0, z10_1, z10_2, f10_0, f10_1, f10_2⟩ := bq3 BK347; obtain ⟨Ao11, co11, eo11⟩ := rL HO358.o; subst eo11; obtain ⟨Ao12, co12, eo12⟩ := rL HO361.o; subst eo12))
 refine bodyPost_ret (results_cc rfl _ _ gb346 gb347 27 27 #[.int .i64 t348, .slice Ao8 t349.length co8, .slice Ao9 t352.length co9] #[.int .i64 t355, .slice Ao11 t356.length co11, .slice Ao12 t359.length co12] (0, 0) (0, 0) _ _ rfl (by (with_reducible repeat (first | apply bN | apply bD | apply bA)); refine bF ?_ NB346_347.o _; (with_reducible repeat (first | apply bN | apply bD | apply bA)); refine bF ?_ NB346_347.o _; (with_reducible repeat (first | apply bN | apply bD | apply bA)); refine bF ?_ NB346_347.o _; (with_reducible repeat (first | apply bN | apply bD | apply bA)); refine bP (cs := #[.int .i64 t348, .slice Ao8 t349.length co8, .slice none 0 0]) ?_ 2 _ rfl; (with_reducible repeat (first | apply bN | apply bD | apply bA)); refine bP (cs := #[.int .i64 t348, .slice none 0 0, .slice none 0 0]) ?_ 1 _ rfl; (with_reducible repeat (first | apply bN | apply bD | apply bA)); refine bP (cs := #[.int .i64 0, .slice none 0 0, .slice none 0 0]) ?_ 0 _ rfl; (with_reducible repeat (first | apply bN | apply bD | apply bA)); exact BK346.o) Try.underlying27 rfl (by kernel_rfl) rfl (by (with_reducible repeat (first | apply bN | apply bD | apply bA)); refine bP (cs := #[.int .i64 t355, .slice Ao11 t356.length co11, .slice none 0 0]) ?_ 2 _ rfl; (with_reducible repeat (first | apply bN | apply bD | apply bA)); refine bP (cs := #[.int .i64 t355, .slice none 0 0, .slice none 0 0]) ?_ 1 _ rfl; (with_reducible repeat (first | apply bN | apply bD | apply bA)); refine bP (cs := #[.int .i64 0, .slice none 0 0, .slice none 0 0]) ?_ 0 _ rfl; (with_reducible repeat (first | apply bN | apply bD | apply bA)); refine bF ?_ NB347_346.o _; (with_reducible repeat (first | apply bN | apply bD | apply bA)); refine bF ?_ NB347_346.o _; (with_reducible repeat (first | apply bN | apply bD | apply bA)); refine bF ?_ NB347_346.o _; (with_reducible repeat (first | apply bN | apply bD | apply bA)); exact BK347.o) Try.underlying27 rfl (by kernel_rfl)) rfl ?_
 exact ⟨_, _, _, _, zE, rM (rB2 HO351 BK346 BK347) (fun _ hk => hk.1.1), rM (rB2 HO354 BK346 BK347) (fun _ hk => hk.1.1), rM (rB2 HO358 BK346 BK347) (fun _ hk => hk.1.1), rM (rB2 HO361 BK346 BK347) (fun _ hk => hk.1.1), zB HB⟩

/-! ### impl_InRange: function 22 -/
def impl_InRange.f (a0 : Int) (a1 : Int) (a2 : Int) : Option (Bool) := if a1 ≤ a0 then (some (decide (a0 ≤ a2))) else (some false)
set_option maxHeartbeats 8000000 in
set_option maxRecDepth 100000 in
theorem impl_InRange.calls (a0 : Int) (a1 : Int) (a2 : Int) (r : Bool) (w : World) (h : impl_InRange.f a0 a1 a2 = some r) :
  Calls Try.prog 22 #[.int .i64 a0, .int .i64 a1, .int .i64 a2] w fun e w' => e = .returned (.bool r) ∧ Drawn0 w w' := by
 have H : (if a1 ≤ a0 then (some (decide (a0 ≤ a2))) else (some false)) = some r := h
 clear h
 by_cases c4 : a1 ≤ a0
 ·rw [if_pos c4] at H
  have c4b0 : decide (a1 ≤ a0) = true := dT c4
  clear c4
  obtain rfl := oI H
  go_enter Try.func22, Try.ntmps22
  go_wp2
  go_ret
  exact ⟨by first | rfl | (simp; done) | (simp [*]; done), by repeat (first | exact Drawn0.refl _ | apply Drawn0.step)⟩
 ·rw [if_neg c4] at H
  have c4b0 : decide (a1 ≤ a0) = false := decide_eq_false c4
  clear c4
  obtain rfl := oI H
  go_enter Try.func22, Try.ntmps22
  go_wp2
  go_ret
  exact ⟨by first | rfl | (simp; done) | (simp [*]; done), by repeat (first | exact Drawn0.refl _ | apply Drawn0.step)⟩

end Go.Proofs.Ytfibjclnaeocbaa.PFnPairs
