-- WRITTEN by pp.py, this session's own wrapper around the print; not trusted: Lean checks it
import Derived.Test.YtfibjclnaeocbaaPFnPairsx0
import Derived.Test.YtfibjclnaeocbaaPFnPairsx1
import Derived.Test.YtfibjclnaeocbaaPFnPairsx2
import Derived.Test.YtfibjclnaeocbaaPFnPairsx3
namespace Go.Proofs.Ytfibjclnaeocbaa.PFnPairs
open Go.RowKit Go.Proofs.Ytfibjclnaeocbaa.Hw Go.Proofs.YtfibjclnaeocbaaW.PrintWords Go.Proofs.YtfibjclnaeocbaaW.PrintLast Go.Proofs.YtfibjclnaeocbaaW.PrintMore
attribute [local go_sem] max2_int min2_int max_two min_two max_three min_three max_four min_four   -- for this text's walks alone
set_option linter.unusedVariables false
set_option linter.unusedSimpArgs false
set_option linter.unusedSectionVars false

/-! ### spec_l14Pair: function 54 -/
mutual
def spec_l14Pair.l0 : Nat → Int → List Int → Int → Int → Int → List Bool → List (S46) → Int → List Bool → List (S46) → Option (Int × List Bool × (List (S46)) × Int × List Bool × (List (S46)) × Int × Int)
 | 0, _, _, _, _, _, _, _, _, _, _ => none
 | k + 1, x6, x1000, x1001, x1002, x183000, x183001, x183002, x191000, x191001, x191002 => if x6 > 0 then (spec_l14Pair.j1 k x6 (decide ((x191002.length : Int) > 0)) x1000 x1001 x1002 x183000 x183001 x183002 x191000 x191001 x191002) else (spec_l14Pair.j1 k x6 false x1000 x1001 x1002 x183000 x183001 x183002 x191000 x191001 x191002)
def spec_l14Pair.j1 : Nat → Int → Bool → List Int → Int → Int → Int → List Bool → List (S46) → Int → List Bool → List (S46) → Option (Int × List Bool × (List (S46)) × Int × List Bool × (List (S46)) × Int × Int)
 | 0, _, _, _, _, _, _, _, _, _, _, _ => none
 | k + 1, x6, x22, x1000, x1001, x1002, x183000, x183001, x183002, x191000, x191001, x191002 => if x22 = true then ((spec_l1Below.f x1000 x1001 x1002 (x191002.length : Int)).bind fun bt194 => ((spec_l1Below.f x1000 bt194.2.1 bt194.2.2 4).bind fun bt197 => (if bt197.1 = 0 then ((some (([] : List (S46)) : List (S46))).bind fun y200 => (if 0 ≤ bt194.1 then (if bt194.1 ≤ (x191002.length : Int) then ((some (x191002.take (bt194.1 : Int).toNat : List (S46))).bind fun y203 => (if y200.length + y203.length < 4398046511104 then ((some (y200 ++ y203 : List (S46))).bind fun y207 => (if 0 ≤ (wrap64 (bt194.1 + 1)) then (if (wrap64 (bt194.1 + 1)) ≤ (x191002.length : Int) then ((some (x191002.drop ((wrap64 (bt194.1 + 1)) : Int).toNat : List (S46))).bind fun y210 => (if y207.length + y210.length < 4398046511104 then (spec_l14Pair.l0 k (wrap64 (x6 - 1)) x1000 bt197.2.1 bt197.2.2 x183000 x183001 x183002 x191000 x191001 (y207 ++ y210)) else (none))) else (none)) else (none))) else (none))) else (none)) else (none))) else (if bt197.1 = 1 then (if 0 ≤ bt194.1 then (if bt194.1 < (x191002.length : Int) then ((spec_l1Below.f x1000 bt197.2.1 bt197.2.2 4).bind fun bt219 => ((spec_MoveOf.f k x191000 x191001 x191002 ((rd_T46 x191002 bt194.1).f0) ((rd_T46 x191002 bt194.1).f1) bt219.1).bind fun t222 => (if t222 < 0 then (if x191002.length < 4398046511104 then (spec_l14Pair.l0 k (wrap64 (x6 - 1)) x1000 bt219.2.1 bt219.2.2 x183000 x183001 x183002 x191000 x191001 (x191002 ++ [(⟨(rd_T46 x191002 bt194.1).f0, (rd_T46 x191002 bt194.1).f1, bt219.1, (rd_T46 x191002 bt194.1).f3⟩ : S46)])) else (none)) else (spec_l14Pair.l0 k (wrap64 (x6 - 1)) x1000 bt219.2.1 bt219.2.2 x183000 x183001 x183002 x191000 x191001 x191002)))) else (none)) else (none)) else (if bt197.1 = 2 then ((spec_l1Below.f x1000 bt197.2.1 bt197.2.2 x191000).bind fun bt226 => (if 0 ≤ bt194.1 then (if bt194.1 < (x191002.length : Int) then (spec_l14Pair.l0 k (wrap64 (x6 - 1)) x1000 bt226.2.1 bt226.2.2 x183000 x183001 x183002 x191000 x191001 (x191002.set (bt194.1 : Int).toNat (⟨(rd_T46 x191002 bt194.1).f0, (rd_T46 x191002 bt194.1).f1, (rd_T46 x191002 bt194.1).f2, bt226.1⟩ : S46))) else (none)) else (none))) else (spec_l14Pair.l0 k (wrap64 (x6 - 1)) x1000 bt197.2.1 bt197.2.2 x183000 x183001 x183002 x191000 x191001 x191002)))))) else (some (x183000, x183001, x183002, x191000, x191001, x191002, x1001, x1002))
end
def spec_l14Pair.f (k : Nat) (s0_0 : List Int) (s0_1 : Int) (s0_2 : Int) : Option (Int × List Bool × (List (S46)) × Int × List Bool × (List (S46)) × Int × Int) := (spec_l13Draw.f k s0_0 s0_1 s0_2).bind fun bt173 => ((spec_DualOf.f k bt173.1 bt173.2.1 bt173.2.2.1).bind fun bt183 => ((spec_l1Below.f s0_0 bt173.2.2.2.1 bt173.2.2.2.2 3).bind fun bt191 => (spec_l14Pair.l0 k bt191.1 s0_0 bt191.2.1 bt191.2.2 bt173.1 bt173.2.1 bt173.2.2.1 bt183.1 bt183.2.1 bt183.2.2)))
theorem spec_l14Pair.mono_l : ∀ k, (∀ y0 y1 y2 y3 y4 y5 y6 y7 y8 y9, LeO (spec_l14Pair.l0 k y0 y1 y2 y3 y4 y5 y6 y7 y8 y9) (spec_l14Pair.l0 (k + 1) y0 y1 y2 y3 y4 y5 y6 y7 y8 y9)) ∧ (∀ y0 y1 y2 y3 y4 y5 y6 y7 y8 y9 y10, LeO (spec_l14Pair.j1 k y0 y1 y2 y3 y4 y5 y6 y7 y8 y9 y10) (spec_l14Pair.j1 (k + 1) y0 y1 y2 y3 y4 y5 y6 y7 y8 y9 y10))
 | 0 => ⟨fun _ _ _ _ _ _ _ _ _ _ r h => by simp [spec_l14Pair.l0] at h, fun _ _ _ _ _ _ _ _ _ _ _ r h => by simp [spec_l14Pair.j1] at h⟩
 | k + 1 => by
  obtain ⟨ih0, ih1⟩ := spec_l14Pair.mono_l k
  refine ⟨?a0, ?a1⟩
  case' a0 => intros; unfold spec_l14Pair.l0
  case' a1 => intros; unfold spec_l14Pair.j1
  all_goals repeat' first
  | (with_reducible first | exact ih0 _ _ _ _ _ _ _ _ _ _ | exact ih1 _ _ _ _ _ _ _ _ _ _ _ | exact spec_DualOf.mono _ _ _ _ | exact spec_MoveOf.mono _ _ _ _ _ _ _ | exact spec_l13Draw.mono _ _ _ _ | exact LeO.refl _ | exact LeO.none _ | refine LeO.ite ?_ ?_ | refine LeO.bind ?_ (fun _ => ?_))
  | exact ih0 _ _ _ _ _ _ _ _ _ _
  | exact ih1 _ _ _ _ _ _ _ _ _ _ _
  | exact spec_DualOf.mono _ _ _ _
  | exact spec_MoveOf.mono _ _ _ _ _ _ _
  | exact spec_l13Draw.mono _ _ _ _
  | exact LeO.none _
  | refine LeO.ite ?_ ?_
  | refine LeO.bind ?_ (fun _ => ?_)
theorem spec_l14Pair.mono : ∀ a0 a1 a2 k, LeO (spec_l14Pair.f k a0 a1 a2) (spec_l14Pair.f (k + 1) a0 a1 a2) := by
 intro a0 a1 a2 k
 obtain ⟨ih0, ih1⟩ := spec_l14Pair.mono_l k
 unfold spec_l14Pair.f
 repeat' first
   | (with_reducible first | exact ih0 _ _ _ _ _ _ _ _ _ _ | exact ih1 _ _ _ _ _ _ _ _ _ _ _ | exact spec_DualOf.mono _ _ _ _ | exact spec_MoveOf.mono _ _ _ _ _ _ _ | exact spec_l13Draw.mono _ _ _ _ | exact LeO.refl _ | exact LeO.none _ | refine LeO.ite ?_ ?_ | refine LeO.bind ?_ (fun _ => ?_))
   | exact ih0 _ _ _ _ _ _ _ _ _ _
   | exact ih1 _ _ _ _ _ _ _ _ _ _ _
   | exact spec_DualOf.mono _ _ _ _
   | exact spec_MoveOf.mono _ _ _ _ _ _ _
   | exact spec_l13Draw.mono _ _ _ _
   | exact LeO.none _
   | refine LeO.ite ?_ ?_
   | refine LeO.bind ?_ (fun _ => ?_)
def spec_l14Pair.T9 : Bool × List (List Nat × List Nat) := (true, [([], []), ([], []), ([1], [1]), ([], []), ([2, 3], [2, 3]), ([0, 4], [0, 4]), ([], []), ([6], [6]), ([], []), ([8], [8]), ([7, 9], [7, 9]), ([5, 10, 5], [5, 10]), ([0, 1, 2, 3, 4, 5, 6, 7, 8, 9, 10, 11], []), ([12, 11, 11, 0, 1, 2, 3, 4, 5, 6, 7, 8, 9, 10, 11], [11, 12])])
def spec_l14Pair.B9 : List Nat := [0, 0, 2, 0, 14, 31, 0, 64, 0, 256, 960, 2047, 4095, 8191]
theorem spec_l14Pair.tab9 : rtab .any (opsOf Try.f54 9) = spec_l14Pair.T9 := by kernel_rfl
theorem spec_l14Pair.bits9 : waitsOk spec_l14Pair.T9.2 spec_l14Pair.B9 = true := by kernel_rfl
def spec_l14Pair.T16 : Bool × List (List Nat × List Nat) := (true, [([], []), ([0], [0]), ([], []), ([], []), ([], []), ([4], [4]), ([3, 5], [3, 5]), ([1, 2, 0, 1, 2, 3, 4, 5, 6], [1, 2]), ([7, 0, 1, 2, 3, 4, 5, 6], [7]), ([8, 6, 6, 0, 1, 2, 3, 4, 5, 6], [6, 8])])
def spec_l14Pair.B16 : List Nat := [0, 1, 0, 0, 0, 16, 56, 127, 255, 511]
theorem spec_l14Pair.tab16 : rtab .any (opsOf Try.f54 16) = spec_l14Pair.T16 := by kernel_rfl
theorem spec_l14Pair.bits16 : waitsOk spec_l14Pair.T16.2 spec_l14Pair.B16 = true := by kernel_rfl
theorem spec_l14Pair.zI69 {P Q : Prop} (h : Aside0 P) (hw : P → Q := by intro h_; repeat (first | (with_reducible first | exact h_ | apply IsS69.alloc | apply IsS69.drew | apply IsS69.drewN | apply IsS69.set_1 | apply IsS69.set_2 | refine IsS69.far ?_ (Aside0.o (by assumption)) _) | exact h_)) : Q := hw h.o
set_option maxHeartbeats 40000000 in
set_option maxRecDepth 100000 in
theorem spec_l14Pair.calls (k : Nat) (g : Nat) (s0_0 : List Int) (s0_1 : Int) (s0_2 : Int) (r1 : Int) (r2 : List Bool) (r3 : List (S46)) (r4 : Int) (r5 : List Bool) (r6 : List (S46)) (r7 : Int) (r8 : Int) (w0 w : World) (hI : IsS69 w0 w g s0_0 s0_1 s0_2) (hB : Below w0.heap.size w0 w) (h : spec_l14Pair.f k s0_0 s0_1 s0_2 = some (r1, r2, r3, r4, r5, r6, r7, r8)) :
  Calls Try.prog 54 #[.pointer (some ⟨g, 0, none⟩)] w fun e w' => ∃ v1_ v2_ v4_ v5_ : Value, e = .returned (.tuple #[.agg #[.int .i64 r1, v1_, v2_], .agg #[.int .i64 r4, v4_, v5_]]) ∧ Kd.R Kd.bool 4 w' w.heap.size (fun k_ => some k_ ≠ (v4_ : Value).ownBlock) v1_ r2 ∧ Kd.R k46 46 w' w.heap.size (fun k_ => some k_ ≠ (v5_ : Value).ownBlock) v2_ r3 ∧ Kd.R Kd.bool 4 w' w.heap.size (fun k_ => some k_ ≠ (v1_ : Value).ownBlock) v4_ r5 ∧ Kd.R k46 46 w' w.heap.size (fun k_ => some k_ ≠ (v2_ : Value).ownBlock) v5_ r6 ∧ IsS69 w0 w' g s0_0 r7 r8 ∧ Below w0.heap.size w0 w' ∧ KeepBut w w' g none := by
 have hu27 := Try.underlying27
 have hu46 := Try.underlying46
 have HI0 := aM hI
 have GI0 := aM (IsS69.ge hI)
 have HK := aM (KeepBut.refl w g none)
 have HL := aM hB.size
 clear hI
 have HW0 := aM hB.size
 have HB := aM hB
 clear hB
 have H : ((spec_l13Draw.f k s0_0 s0_1 s0_2).bind fun bt173 => ((spec_DualOf.f k bt173.1 bt173.2.1 bt173.2.2.1).bind fun bt183 => ((spec_l1Below.f s0_0 bt173.2.2.2.1 bt173.2.2.2.2 3).bind fun bt191 => (spec_l14Pair.l0 k bt191.1 s0_0 bt191.2.1 bt191.2.2 bt173.1 bt173.2.1 bt173.2.2.1 bt183.1 bt183.2.1 bt183.2.2)))) = some (r1, r2, r3, r4, r5, r6, r7, r8) := h
 clear h
 replace H := oB.mp H
 obtain ⟨⟨t173, t174, t177, t180, t181⟩, A20, H⟩ := H
 dsimp only at H
 have A2 := aM A20
 clear A20
 replace H := oB.mp H
 obtain ⟨⟨t183, t184, t187⟩, A30, H⟩ := H
 dsimp only at H
 have A3 := aM A30
 clear A30
 replace H := oB.mp H
 obtain ⟨⟨t191, t192, t193⟩, A40, H⟩ := H
 dsimp only at H
 have A4 := aM A40
 clear A40
 have H' := aM H
 clear H
 go_enter Try.func54, Try.ntmps54
 go_wp2_with (first | ((with_reducible refine gD (N := 2) rfl ?_); (try (refine gate_guard (by rfl) ?_; dsimp only)); refine box_event ?hg (N := 2) ?hd (cs := #[.int .i64 0, .slice none 0 0, .slice none 0 0]) (t := 27) ?hr ?_; (case hd => rfl); (case hg => rfl); (case hr => first | (go_simp; done) | (go_simp; rfl)); intro gb171 hg w5 hbox hb; replace HB := bS HB hb; have BK171 := aM (hbox); have GW171 := gK HK hg; have GE171 := gL HW0 GW171; replace HK := hkB HK hb; have NB0_171 := IsS69.nL HI0 hg; have NB171_0 := IsS69.nR HI0 hg; replace HI0 := aM (IsS69.below (spec_l14Pair.zI69 HI0) hb); clear hb hbox hg) | ((with_reducible refine gD (N := 3) rfl ?_); (try (refine gate_guard (by rfl) ?_; dsimp only)); refine box_event ?hg (N := 3) ?hd (cs := #[.int .i64 0, .slice none 0 0, .slice none 0 0]) (t := 27) ?hr ?_; (case hd => rfl); (case hg => rfl); (case hr => first | (go_simp; done) | (go_simp; rfl)); intro gb172 hg w6 hbox hb; replace HB := bS HB hb; have BK172 := aM (hbox); have GW172 := gK HK hg; have GE172 := gL HW0 GW172; replace HK := hkB HK hb; have NB171_172 := nL BK171 hg; have NB172_171 := nR BK171 hg; replace BK171 := kB BK171 hb; have NB0_172 := IsS69.nL HI0 hg; have NB172_0 := IsS69.nR HI0 hg; replace HI0 := aM (IsS69.below (spec_l14Pair.zI69 HI0) hb); clear hb hbox hg) | ((with_reducible refine gC (f := 32) rfl ?_); refine goesL_ (some 10) rfl rfl Try.func32 (by kernel_rfl) rfl #[.pointer (some ⟨g, 0, none⟩)] rfl zG ?_; (with_reducible refine (spec_l13Draw.calls k g s0_0 s0_1 s0_2 t173 t174 t177 t180 t181 w0 _ ?s1 ?s2 A2.o).mono ?_); (case s1 => exact spec_l14Pair.zI69 HI0); (case s2 => exact zB HB); rintro e w7 ⟨v175, v178, rfl, ho0, ho1, hi, hb, hk⟩; refine ⟨_, rfl, ?_⟩; replace BK171 := kbT hk BK171 NB171_0; replace BK172 := kbT hk BK172 NB172_0; have HO176 := aM (rO ho0 (keep_size (w := w) (g := g) (row := none) (zH HK))); have HO179 := aM (rO ho1 (keep_size (w := w) (g := g) (row := none) (zH HK))); replace HK := hkT HK hk; replace HB := aM (hb); replace HI0 := aM (hi); (try clear hb); (try clear ho0); (try clear ho1)) | ((with_reducible refine gD (N := 4) rfl ?_); (try (refine gate_guard (by rfl) ?_; dsimp only)); refine box_event ?hg (N := 4) ?hd (cs := #[.int .i64 0, .slice none 0 0, .slice none 0 0]) (t := 27) ?hr ?_; (case hd => rfl); (case hg => rfl); (case hr => first | (go_simp; done) | (go_simp; rfl)); intro gb182 hg w8 hbox hb; replace HO176 := aM (rW (zR HO176) hb); replace HO179 := aM (rW (zR HO179) hb); replace HB := bS HB hb; have BK182 := aM (hbox); have GW182 := gK HK hg; have GE182 := gL HW0 GW182; replace HK := hkB HK hb; have NB171_182 := nL BK171 hg; have NB182_171 := nR BK171 hg; replace BK171 := kB BK171 hb; have NB172_182 := nL BK172 hg; have NB182_172 := nR BK172 hg; replace BK172 := kB BK172 hb; have NB0_182 := IsS69.nL HI0 hg; have NB182_0 := IsS69.nR HI0 hg; replace HI0 := aM (IsS69.below (spec_l14Pair.zI69 HI0) hb); clear hb hbox hg; have hnb9 := NB182_171.o; have hnc9 := NB171_182.o; have hnb10 := NB182_172.o; have hnc10 := NB172_182.o; have hnb11 := NB182_0.o; have hnc11 := NB0_182.o; obtain ⟨z12_0, z12_1, z12_2, f12_0, f12_1, f12_2⟩ := bq3 BK182; obtain ⟨Ao13, co13, eo13⟩ := rL HO176.o; subst eo13; obtain ⟨Ao14, co14, eo14⟩ := rL HO179.o; subst eo14) | ((with_reducible refine gC (f := 49) rfl ?_); refine goesL_ (some 12) rfl rfl Try.func49 (by kernel_rfl) rfl #[.agg #[.int .i64 t173, .slice Ao13 t174.length co13, .slice Ao14 t177.length co14]] rfl zG ?_; (with_reducible refine (spec_DualOf.calls k t173 _ _ t174 _ _ t177 t183 t184 t187 _ ?s1 ?s2 ?s3 ?s4 A3.o).mono ?_); (case s1 => refine (rQ (e := 4) (base := w.heap.size) (ok := fun k_ => True) (n := t174.length) (c := co13) ?_).2.2; exact ((rM (rB HO176 BK182) (fun _ h_ => h_.1)))); (case s2 => exact (rQ HO176.o).2.1); (case s3 => refine (rQ (e := 46) (base := w.heap.size) (ok := fun k_ => True) (n := t177.length) (c := co14) ?_).2.2; exact ((rM (rB HO179 BK182) (fun _ h_ => h_.1)))); (case s4 => exact (rQ HO179.o).2.1); rintro e w15 ⟨v185, v188, rfl, ho0, ho1, hb⟩; refine ⟨_, rfl, ?_⟩; have HO186 := aM (rO (Kd.R_new' ho0 (Kd.R_lt ((rM (rB HO176 BK182) (fun _ h_ => h_.1))))) (keep_size (w := w) (g := g) (row := none) (zH HK))); replace HO176 := aM (Kd.R_elder' ((rM (rB HO176 BK182) (fun _ h_ => h_.1))) (Kd.R_base ho0) hb); have HO189 := aM (rO (Kd.R_new' ho1 (Kd.R_lt ((rM (rB HO179 BK182) (fun _ h_ => h_.1))))) (keep_size (w := w) (g := g) (row := none) (zH HK))); replace HO179 := aM (Kd.R_elder' ((rM (rB HO179 BK182) (fun _ h_ => h_.1))) (Kd.R_base ho1) hb); replace BK171 := aM (blk_below (kF BK171) hb); replace BK172 := aM (blk_below (kF BK172) hb); replace BK182 := aM (blk_below (g := gb182) (o := .cells #[.int .i64 t173, .slice Ao13 t174.length co13, .slice Ao14 t177.length co14] 27 (0, 0)) (by (with_reducible repeat (first | apply bN | apply bD | apply bA)); refine bP (cs := #[.int .i64 t173, .slice Ao13 t174.length co13, .slice none 0 0]) ?_ 2 _ rfl; (with_reducible repeat (first | apply bN | apply bD | apply bA)); refine bP (cs := #[.int .i64 t173, .slice none 0 0, .slice none 0 0]) ?_ 1 _ rfl; (with_reducible repeat (first | apply bN | apply bD | apply bA)); refine bP (cs := #[.int .i64 0, .slice none 0 0, .slice none 0 0]) ?_ 0 _ rfl; (with_reducible repeat (first | apply bN | apply bD | apply bA)); exact BK182.o) hb); replace HK := hkB HK hb; replace HB := bS HB hb; replace HI0 := aM (IsS69.below (show IsS69 w0 (((w8.setCell ⟨gb182, 0, none⟩ (.int .i64 t173)).setCell ⟨gb182, 1, none⟩ (.slice Ao13 t174.length co13)).setCell ⟨gb182, 2, none⟩ (.slice Ao14 t177.length co14)) g s0_0 t180 t181 from spec_l14Pair.zI69 HI0) hb); (try clear hb); (try clear ho0); (try clear ho1)) | ((with_reducible refine gD (N := 5) rfl ?_); (try (refine gate_guard (by rfl) ?_; dsimp only)); refine box_event ?hg (N := 5) ?hd (cs := #[.int .i64 0, .slice none 0 0, .slice none 0 0]) (t := 27) ?hr ?_; (case hd => rfl); (case hg => rfl); (case hr => first | (go_simp; done) | (go_simp; rfl)); intro gb190 hg w16 hbox hb; replace HO176 := aM (rW (zR HO176) hb); replace HO179 := aM (rW (zR HO179) hb); replace HO186 := aM (rW (zR HO186) hb); replace HO189 := aM (rW (zR HO189) hb); replace HB := bS HB hb; have BK190 := aM (hbox); have GW190 := gK HK hg; have GE190 := gL HW0 GW190; replace HK := hkB HK hb; have NB171_190 := nL BK171 hg; have NB190_171 := nR BK171 hg; replace BK171 := kB BK171 hb; have NB172_190 := nL BK172 hg; have NB190_172 := nR BK172 hg; replace BK172 := kB BK172 hb; have NB182_190 := nL BK182 hg; have NB190_182 := nR BK182 hg; replace BK182 := kB BK182 hb; have NB0_190 := IsS69.nL HI0 hg; have NB190_0 := IsS69.nR HI0 hg; replace HI0 := aM (IsS69.below (spec_l14Pair.zI69 HI0) hb); clear hb hbox hg; have hnb17 := NB190_171.o; have hnc17 := NB171_190.o; have hnb18 := NB190_172.o; have hnc18 := NB172_190.o; have hnb19 := NB190_182.o; have hnc19 := NB182_190.o; have hnb20 := NB190_0.o; have hnc20 := NB0_190.o; obtain ⟨z21_0, z21_1, z21_2, f21_0, f21_1, f21_2⟩ := bq3 BK190; obtain ⟨Ao22, co22, eo22⟩ := rL HO186.o; subst eo22; obtain ⟨Ao23, co23, eo23⟩ := rL HO189.o; subst eo23) | ((with_reducible refine gC (f := 33) rfl ?_); refine goesL_ (some 14) rfl rfl Try.func33 (by kernel_rfl) rfl #[.pointer (some ⟨g, 0, none⟩), .int .i64 3] rfl zG ?_; (with_reducible refine (spec_l1Below.calls g s0_0 t180 t181 3 t191 t192 t193 w0 _ ?s1 ?s2 A4.o).mono ?_); (case s1 => exact spec_l14Pair.zI69 HI0); (case s2 => exact zB HB); rintro e w24 ⟨rfl, hi, hb, hk⟩; refine ⟨_, rfl, ?_⟩; replace BK171 := kbT hk BK171 NB171_0; replace BK172 := kbT hk BK172 NB172_0; replace HO176 := aM (rM (Kd.R_keep (IsS69.apart (show IsS69 w0 _ g s0_0 t180 t181 from spec_l14Pair.zI69 HI0) ((rM (rB HO176 BK190) (fun _ h_ => h_.1))) (by decide)) hk (fun _ h => h.2)) (fun _ h => h.1)); replace HO179 := aM (rM (Kd.R_keep (IsS69.apart (show IsS69 w0 _ g s0_0 t180 t181 from spec_l14Pair.zI69 HI0) ((rM (rB HO179 BK190) (fun _ h_ => h_.1))) (by decide)) hk (fun _ h => h.2)) (fun _ h => h.1)); replace BK182 := kbT hk BK182 NB182_0; replace HO186 := aM (rM (Kd.R_keep (IsS69.apart (show IsS69 w0 _ g s0_0 t180 t181 from spec_l14Pair.zI69 HI0) ((rM (rB HO186 BK190) (fun _ h_ => h_.1))) (by decide)) hk (fun _ h => h.2)) (fun _ h => h.1)); replace HO189 := aM (rM (Kd.R_keep (IsS69.apart (show IsS69 w0 _ g s0_0 t180 t181 from spec_l14Pair.zI69 HI0) ((rM (rB HO189 BK190) (fun _ h_ => h_.1))) (by decide)) hk (fun _ h => h.2)) (fun _ h => h.1)); replace BK190 := aM (KeepBut.blk hk (g' := gb190) (o := .cells #[.int .i64 t183, .slice Ao22 t184.length co22, .slice Ao23 t187.length co23] 27 (0, 0)) (by (with_reducible repeat (first | apply bN | apply bD | apply bA)); refine bP (cs := #[.int .i64 t183, .slice Ao22 t184.length co22, .slice none 0 0]) ?_ 2 _ rfl; (with_reducible repeat (first | apply bN | apply bD | apply bA)); refine bP (cs := #[.int .i64 t183, .slice none 0 0, .slice none 0 0]) ?_ 1 _ rfl; (with_reducible repeat (first | apply bN | apply bD | apply bA)); refine bP (cs := #[.int .i64 0, .slice none 0 0, .slice none 0 0]) ?_ 0 _ rfl; (with_reducible repeat (first | apply bN | apply bD | apply bA)); exact BK190.o) NB190_0.o (by simp)); replace HK := hkT HK hk; replace HB := aM (hb); replace HI0 := aM (hi); (try clear hb)))
 go_loopg [6] k (fun kq v6 w' => ∃ (x6_1 : Int) (x1001_1 : Int) (x1002_1 : Int) (x183002_1 : List (S46)) (x191002_1 : List (S46)) (u183002 : Value) (u191002 : Value), v6 = .int .i64 x6_1 ∧ Aside0 (spec_l14Pair.l0 kq x6_1 s0_0 x1001_1 x1002_1 t173 t174 x183002_1 t183 t184 x191002_1 = some (r1, r2, r3, r4, r5, r6, r7, r8)) ∧ Aside0 (kq ≤ k) ∧ Aside0 (Kd.R Kd.bool 4 w' w.heap.size (fun k_ => some k_ ≠ ((.slice Ao22 t184.length co22) : Value).ownBlock) (.slice Ao13 t174.length co13) t174) ∧ Aside0 (Kd.R k46 46 w' w.heap.size (fun k_ => some k_ ≠ (u191002 : Value).ownBlock) u183002 x183002_1) ∧ Aside0 (Kd.R Kd.bool 4 w' w.heap.size (fun k_ => some k_ ≠ ((.slice Ao13 t174.length co13) : Value).ownBlock) (.slice Ao22 t184.length co22) t184) ∧ Aside0 (Kd.R k46 46 w' w.heap.size (fun k_ => some k_ ≠ (u183002 : Value).ownBlock) u191002 x191002_1) ∧ Aside0 (w'.heap[gb171]? = some (.cells #[.int .i64 0, (.slice none 0 0), (.slice none 0 0)] 27 (0, 0))) ∧ Aside0 (w'.heap[gb172]? = some (.cells #[.int .i64 0, (.slice none 0 0), (.slice none 0 0)] 27 (0, 0))) ∧ Aside0 (w'.heap[gb182]? = some (.cells #[.int .i64 t173, (.slice Ao13 t174.length co13), u183002] 27 (0, 0))) ∧ Aside0 (w'.heap[gb190]? = some (.cells #[.int .i64 t183, (.slice Ao22 t184.length co22), u191002] 27 (0, 0))) ∧ Aside0 (IsS69 w0 w' g s0_0 x1001_1 x1002_1) ∧ Aside0 (KeepBut w w' g none) ∧ Aside0 (Below w0.heap.size w0 w'))
 case atStart => exact ⟨(t191), (t192), (t193), (t177), (t187), (.slice Ao14 t177.length co14), (.slice Ao23 t187.length co23), zF, H', ⟨Nat.le_refl _⟩, ⟨by (with_reducible repeat (first | apply rA | apply rN | apply rD)); exact rM HO176.o (fun _ hk => hk.2)⟩, ⟨by (with_reducible repeat (first | apply rA | apply rN | apply rD)); exact rM HO179.o (fun _ hk => hk.2)⟩, ⟨by (with_reducible repeat (first | apply rA | apply rN | apply rD)); exact rM HO186.o (fun _ hk => hk.2)⟩, ⟨by (with_reducible repeat (first | apply rA | apply rN | apply rD)); exact rM HO189.o (fun _ hk => hk.2)⟩, ⟨zK BK171⟩, ⟨zK BK172⟩, ⟨zK BK182⟩, ⟨zK BK190⟩, ⟨spec_l14Pair.zI69 HI0⟩, ⟨zH HK⟩, ⟨zB HB⟩⟩
 case round =>
  clear H'
  try clear c1
  try clear c2
  try clear p2
  try clear c3
  try clear c4
  try clear c5
  try clear c9
  try clear c10
  try clear c11
  try clear c17
  try clear c18
  try clear c19
  try clear c20
  try clear z12_0
  try clear z12_1
  try clear z12_2
  try clear z21_0
  try clear z21_1
  try clear z21_2
  try clear f12_0
  try clear f12_1
  try clear f12_2
  try clear f21_0
  try clear f21_1
  try clear f21_2
  obtain ⟨x6_1, x1001_1, x1002_1, x183002_1, x191002_1, u183002, u191002, rfl, HA, HK1, HO_183001, HO_183002, HO_191001, HO_191002, BK171, BK172, BK182, BK190, HI0, HK, HB⟩ := hrel
  cases gk with
  | zero => exact absurd HA.o (by simp [spec_l14Pair.l0])
  | succ k1 =>
   have H := HA.o
   clear HA
   simp only [spec_l14Pair.l0] at H
   have HC25 := aM H
   clear H
   go_upto_region 4 with (fail)
   go_cut [22] (fun v22 wc => ∃ (kq : Nat) (x22_24 : Bool), v22 = .bool x22_24 ∧ Aside0 (spec_l14Pair.j1 kq x6_1 x22_24 s0_0 x1001_1 x1002_1 t173 t174 x183002_1 t183 t184 x191002_1 = some (r1, r2, r3, r4, r5, r6, r7, r8)) ∧ Aside0 (kq ≤ k1) ∧ Aside0 (Kd.R Kd.bool 4 wc w.heap.size (fun k_ => some k_ ≠ ((.slice Ao22 t184.length co22) : Value).ownBlock) (.slice Ao13 t174.length co13) t174) ∧ Aside0 (Kd.R k46 46 wc w.heap.size (fun k_ => some k_ ≠ (u191002 : Value).ownBlock) u183002 x183002_1) ∧ Aside0 (Kd.R Kd.bool 4 wc w.heap.size (fun k_ => some k_ ≠ ((.slice Ao13 t174.length co13) : Value).ownBlock) (.slice Ao22 t184.length co22) t184) ∧ Aside0 (Kd.R k46 46 wc w.heap.size (fun k_ => some k_ ≠ (u183002 : Value).ownBlock) u191002 x191002_1) ∧ Aside0 (wc.heap[gb171]? = some (.cells #[.int .i64 0, (.slice none 0 0), (.slice none 0 0)] 27 (0, 0))) ∧ Aside0 (wc.heap[gb172]? = some (.cells #[.int .i64 0, (.slice none 0 0), (.slice none 0 0)] 27 (0, 0))) ∧ Aside0 (wc.heap[gb182]? = some (.cells #[.int .i64 t173, (.slice Ao13 t174.length co13), u183002] 27 (0, 0))) ∧ Aside0 (wc.heap[gb190]? = some (.cells #[.int .i64 t183, (.slice Ao22 t184.length co22), u191002] 27 (0, 0))) ∧ Aside0 (IsS69 w0 wc g s0_0 x1001_1 x1002_1) ∧ Aside0 (KeepBut w wc g none) ∧ Aside0 (Below w0.heap.size w0 wc))
   case first =>
    have H := HC25.o
    clear HC25
    by_cases c26 : x6_1 > 0
    ·rw [if_pos c26] at H
     have c26b0 : decide (0 < x6_1) = true := dT c26
     clear c26
     (first | rw [c26b0] | (simp only [i64_w, i32_w]; rw [c26b0]) | skip)
     have H' := aM H
     clear H
     have hnb27 := NB190_171.o
     have hnc27 := NB171_190.o
     have hnb28 := NB190_172.o
     have hnc28 := NB172_190.o
     have hnb29 := NB190_182.o
     have hnc29 := NB182_190.o
     have hnb30 := NB190_0.o
     have hnc30 := NB0_190.o
     obtain ⟨z31_0, z31_1, z31_2, f31_0, f31_1, f31_2⟩ := bq3 BK190
     obtain ⟨Ao32, co32, eo32⟩ := rL HO_191002.o
     subst eo32
     go_wp2
     go_meet
     case rel => exact ⟨_, (decide ((x191002_1.length : Int) > 0)), zF, H', ⟨by have := HK1.o; first | omega | exact Nat.le_refl _⟩, ⟨zR HO_183001⟩, ⟨zR HO_183002⟩, ⟨zR HO_191001⟩, ⟨zR HO_191002⟩, ⟨zK BK171⟩, ⟨zK BK172⟩, ⟨zK BK182⟩, ⟨zK BK190⟩, ⟨spec_l14Pair.zI69 HI0⟩, ⟨zH HK⟩, ⟨zB HB⟩⟩
    ·rw [if_neg c26] at H
     have c26b0 : decide (0 < x6_1) = false := decide_eq_false c26
     clear c26
     (first | rw [c26b0] | (simp only [i64_w, i32_w]; rw [c26b0]) | skip)
     have H' := aM H
     clear H
     go_wp2
     go_meet
     case rel => exact ⟨_, (false), zF, H', ⟨by have := HK1.o; first | omega | exact Nat.le_refl _⟩, ⟨zR HO_183001⟩, ⟨zR HO_183002⟩, ⟨zR HO_191001⟩, ⟨zR HO_191002⟩, ⟨zK BK171⟩, ⟨zK BK172⟩, ⟨zK BK182⟩, ⟨zK BK190⟩, ⟨spec_l14Pair.zI69 HI0⟩, ⟨zH HK⟩, ⟨zB HB⟩⟩
   case rest =>
    clear HC25
    try clear c1
    try clear c2
    try clear p2
    try clear c3
    try clear c4
    try clear c5
    try clear c9
    try clear c10
    try clear c11
    try clear c17
    try clear c18
    try clear c19
    try clear c20
    try clear c26
    try clear c26b0
    try clear c27
    try clear c28
    try clear c29
    try clear c30
    try clear c32
    try clear z12_0
    try clear z12_1
    try clear z12_2
    try clear z21_0
    try clear z21_1
    try clear z21_2
    try clear z31_0
    try clear z31_1
    try clear z31_2
    try clear f12_0
    try clear f12_1
    try clear f12_2
    try clear f21_0
    try clear f21_1
    try clear f21_2
    try clear f31_0
    try clear f31_1
    try clear f31_2
    try clear p2
    obtain ⟨kq, x22_24, rfl, HA, HJ24, HO_183001, HO_183002, HO_191001, HO_191002, BK171, BK172, BK182, BK190, HI0, HK, HB⟩ := hcut
    cases kq with
    | zero => exact absurd HA.o (by simp [spec_l14Pair.j1])
    | succ kj24 =>
     have H := HA.o
     clear HA
     simp only [spec_l14Pair.j1] at H
     by_cases c33 : x22_24 = true
     ·subst c33
      have H1 : ((spec_l1Below.f s0_0 x1001_1 x1002_1 (x191002_1.length : Int)).bind fun bt194 => ((spec_l1Below.f s0_0 bt194.2.1 bt194.2.2 4).bind fun bt197 => (if bt197.1 = 0 then ((some (([] : List (S46)) : List (S46))).bind fun y200 => (if 0 ≤ bt194.1 then (if bt194.1 ≤ (x191002_1.length : Int) then ((some (x191002_1.take (bt194.1 : Int).toNat : List (S46))).bind fun y203 => (if y200.length + y203.length < 4398046511104 then ((some (y200 ++ y203 : List (S46))).bind fun y207 => (if 0 ≤ (wrap64 (bt194.1 + 1)) then (if (wrap64 (bt194.1 + 1)) ≤ (x191002_1.length : Int) then ((some (x191002_1.drop ((wrap64 (bt194.1 + 1)) : Int).toNat : List (S46))).bind fun y210 => (if y207.length + y210.length < 4398046511104 then (spec_l14Pair.l0 kj24 (wrap64 (x6_1 - 1)) s0_0 bt197.2.1 bt197.2.2 t173 t174 x183002_1 t183 t184 (y207 ++ y210)) else (none))) else (none)) else (none))) else (none))) else (none)) else (none))) else (if bt197.1 = 1 then (if 0 ≤ bt194.1 then (if bt194.1 < (x191002_1.length : Int) then ((spec_l1Below.f s0_0 bt197.2.1 bt197.2.2 4).bind fun bt219 => ((spec_MoveOf.f kj24 t183 t184 x191002_1 ((rd_T46 x191002_1 bt194.1).f0) ((rd_T46 x191002_1 bt194.1).f1) bt219.1).bind fun t222 => (if t222 < 0 then (if x191002_1.length < 4398046511104 then (spec_l14Pair.l0 kj24 (wrap64 (x6_1 - 1)) s0_0 bt219.2.1 bt219.2.2 t173 t174 x183002_1 t183 t184 (x191002_1 ++ [(⟨(rd_T46 x191002_1 bt194.1).f0, (rd_T46 x191002_1 bt194.1).f1, bt219.1, (rd_T46 x191002_1 bt194.1).f3⟩ : S46)])) else (none)) else (spec_l14Pair.l0 kj24 (wrap64 (x6_1 - 1)) s0_0 bt219.2.1 bt219.2.2 t173 t174 x183002_1 t183 t184 x191002_1)))) else (none)) else (none)) else (if bt197.1 = 2 then ((spec_l1Below.f s0_0 bt197.2.1 bt197.2.2 t183).bind fun bt226 => (if 0 ≤ bt194.1 then (if bt194.1 < (x191002_1.length : Int) then (spec_l14Pair.l0 kj24 (wrap64 (x6_1 - 1)) s0_0 bt226.2.1 bt226.2.2 t173 t174 x183002_1 t183 t184 (x191002_1.set (bt194.1 : Int).toNat (⟨(rd_T46 x191002_1 bt194.1).f0, (rd_T46 x191002_1 bt194.1).f1, (rd_T46 x191002_1 bt194.1).f2, bt226.1⟩ : S46))) else (none)) else (none))) else (spec_l14Pair.l0 kj24 (wrap64 (x6_1 - 1)) s0_0 bt197.2.1 bt197.2.2 t173 t174 x183002_1 t183 t184 x191002_1)))))) = some (r1, r2, r3, r4, r5, r6, r7, r8) := by rw [if_pos rfl] at H; exact H
      clear H
      have H := H1
      clear H1
      replace H := oB.mp H
      obtain ⟨⟨t194, t195, t196⟩, A340, H⟩ := H
      dsimp only at H
      have A34 := aM A340
      clear A340
      replace H := oB.mp H
      obtain ⟨⟨t197, t198, t199⟩, A350, H⟩ := H
      dsimp only at H
      have A35 := aM A350
      clear A350
      by_cases c36 : t197 = 0
      ·rw [if_pos c36] at H
       have c36b0 : (t197 == 0) = true := beq_iff_eq.mpr c36
       have c36b1 : (t197 != 0) = false := bne_eq_false_iff_eq.mpr c36
       clear c36
       obtain ⟨y200, hy200⟩ : ∃ y_ : List (S46), y_ = (([] : List (S46))) := ⟨_, rfl⟩
       replace H : (if 0 ≤ t194 then (if t194 ≤ (x191002_1.length : Int) then ((some (x191002_1.take (t194 : Int).toNat : List (S46))).bind fun y203 => (if y200.length + y203.length < 4398046511104 then ((some (y200 ++ y203 : List (S46))).bind fun y207 => (if 0 ≤ (wrap64 (t194 + 1)) then (if (wrap64 (t194 + 1)) ≤ (x191002_1.length : Int) then ((some (x191002_1.drop ((wrap64 (t194 + 1)) : Int).toNat : List (S46))).bind fun y210 => (if y207.length + y210.length < 4398046511104 then (spec_l14Pair.l0 kj24 (wrap64 (x6_1 - 1)) s0_0 t198 t199 t173 t174 x183002_1 t183 t184 (y207 ++ y210)) else (none))) else (none)) else (none))) else (none))) else (none)) else (none)) = some (r1, r2, r3, r4, r5, r6, r7, r8) := by first | (rw [hy200]; with_reducible exact H) | (rw [hy200]; exact H) | exact H
       have Ny200 := aM hy200
       clear hy200
       obtain ⟨c37, H⟩ := ifS H
       have c37b0 := eq_true c37
       have c37b1 : decide (0 ≤ t194) = true := dT c37
       clear c37
       obtain ⟨c38, H⟩ := ifS H
       have c38b0 := eq_true c38
       have c38b1 : decide (t194 ≤ (x191002_1.length : Int)) = true := dT c38
       clear c38
       obtain ⟨y203, hy203⟩ : ∃ y_ : List (S46), y_ = (x191002_1.take (t194 : Int).toNat) := ⟨_, rfl⟩
       replace H : (if y200.length + y203.length < 4398046511104 then ((some (y200 ++ y203 : List (S46))).bind fun y207 => (if 0 ≤ (wrap64 (t194 + 1)) then (if (wrap64 (t194 + 1)) ≤ (x191002_1.length : Int) then ((some (x191002_1.drop ((wrap64 (t194 + 1)) : Int).toNat : List (S46))).bind fun y210 => (if y207.length + y210.length < 4398046511104 then (spec_l14Pair.l0 kj24 (wrap64 (x6_1 - 1)) s0_0 t198 t199 t173 t174 x183002_1 t183 t184 (y207 ++ y210)) else (none))) else (none)) else (none))) else (none)) = some (r1, r2, r3, r4, r5, r6, r7, r8) := by first | (rw [hy203]; with_reducible exact H) | (rw [hy203]; exact H) | exact H
       have Ny203 := aM hy203
       clear hy203
       obtain ⟨c39, H⟩ := ifS H
       have LMc39 := aM c39
       clear c39
       obtain ⟨y207, hy207⟩ : ∃ y_ : List (S46), y_ = (y200 ++ y203) := ⟨_, rfl⟩
       replace H : (if 0 ≤ (wrap64 (t194 + 1)) then (if (wrap64 (t194 + 1)) ≤ (x191002_1.length : Int) then ((some (x191002_1.drop ((wrap64 (t194 + 1)) : Int).toNat : List (S46))).bind fun y210 => (if y207.length + y210.length < 4398046511104 then (spec_l14Pair.l0 kj24 (wrap64 (x6_1 - 1)) s0_0 t198 t199 t173 t174 x183002_1 t183 t184 (y207 ++ y210)) else (none))) else (none)) else (none)) = some (r1, r2, r3, r4, r5, r6, r7, r8) := by first | (rw [hy207]; with_reducible exact H) | (rw [hy207]; exact H) | exact H
       have Ny207 := aM hy207
       clear hy207
       obtain ⟨ji40, hji40⟩ : ∃ j_ : Int, (wrap64 (t194 + 1)) = j_ := ⟨_, rfl⟩
       replace H : (if 0 ≤ (ji40) then (if (ji40) ≤ (x191002_1.length : Int) then ((some (x191002_1.drop ((ji40) : Int).toNat : List (S46))).bind fun y210 => (if y207.length + y210.length < 4398046511104 then (spec_l14Pair.l0 kj24 (wrap64 (x6_1 - 1)) s0_0 t198 t199 t173 t174 x183002_1 t183 t184 (y207 ++ y210)) else (none))) else (none)) else (none)) = some (r1, r2, r3, r4, r5, r6, r7, r8) := by first | (rw [hji40] at H; exact H) | (simp only [hji40] at H ⊢; exact H)
       (try rw [hji40] at A34)
       (try rw [hji40] at A35)
       have hji40w : (IntKind.i64.wrap (t194 + 1)) = ji40 := (i64_w _).trans hji40
       obtain ⟨c41, H⟩ := ifS H
       have c41b0 := eq_true c41
       have c41b1 : decide (0 ≤ (ji40)) = true := dT c41
       clear c41
       obtain ⟨c42, H⟩ := ifS H
       have c42b0 := eq_true c42
       have c42b1 : decide ((ji40) ≤ (x191002_1.length : Int)) = true := dT c42
       clear c42
       obtain ⟨y210, hy210⟩ : ∃ y_ : List (S46), y_ = (x191002_1.drop ((ji40) : Int).toNat) := ⟨_, rfl⟩
       replace H : (if y207.length + y210.length < 4398046511104 then (spec_l14Pair.l0 kj24 (wrap64 (x6_1 - 1)) s0_0 t198 t199 t173 t174 x183002_1 t183 t184 (y207 ++ y210)) else (none)) = some (r1, r2, r3, r4, r5, r6, r7, r8) := by first | (rw [hy210]; with_reducible exact H) | (rw [hy210]; exact H) | exact H
       have Ny210 := aM hy210
       clear hy210
       obtain ⟨c43, H⟩ := ifS H
       have LMc43 := aM c43
       clear c43
       obtain ⟨y214, hy214⟩ : ∃ y_ : List (S46), y_ = (y207 ++ y210) := ⟨_, rfl⟩
       replace H : (spec_l14Pair.l0 kj24 (wrap64 (x6_1 - 1)) s0_0 t198 t199 t173 t174 x183002_1 t183 t184 y214) = some (r1, r2, r3, r4, r5, r6, r7, r8) := by first | (rw [hy214]; with_reducible exact H) | (rw [hy214]; exact H) | exact H
       have Ny214 := aM hy214
       clear hy214
       have H' := aM H
       clear H
       have hnb44 := NB190_171.o
       have hnc44 := NB171_190.o
       have hnb45 := NB190_172.o
       have hnc45 := NB172_190.o
       have hnb46 := NB190_182.o
       have hnc46 := NB182_190.o
       have hnb47 := NB190_0.o
       have hnc47 := NB0_190.o
       obtain ⟨z48_0, z48_1, z48_2, f48_0, f48_1, f48_2⟩ := bq3 BK190
       obtain ⟨Ao49, co49, eo49⟩ := rL HO_191002.o
       subst eo49
       try go_wp2_with (first | ((with_reducible refine gC (f := 33) rfl ?_); refine goesL_ (some 29) rfl rfl Try.func33 (by kernel_rfl) rfl #[.pointer (some ⟨g, 0, none⟩), .int .i64 (x191002_1.length : Int)] rfl zG ?_; (with_reducible refine (spec_l1Below.calls g s0_0 x1001_1 x1002_1 (x191002_1.length : Int) t194 t195 t196 w0 _ ?s1 ?s2 A34.o).mono ?_); (case s1 => exact spec_l14Pair.zI69 HI0); (case s2 => exact zB HB); rintro e w50 ⟨rfl, hi, hb, hk⟩; refine ⟨_, rfl, ?_⟩; replace HO_183001 := IsS69.kR HI0 HO_183001 hk; replace HO_183002 := IsS69.kR HI0 HO_183002 hk; replace HO_191001 := IsS69.kR HI0 HO_191001 hk; replace HO_191002 := IsS69.kR HI0 HO_191002 hk; replace BK171 := kbT hk BK171 NB171_0; replace BK172 := kbT hk BK172 NB172_0; replace BK182 := kbT hk BK182 NB182_0; replace BK190 := kbT hk BK190 NB190_0; replace HK := hkT HK hk; replace HB := aM (hb); replace HI0 := aM (hi); (try clear hb)) | ((with_reducible refine gC (f := 33) rfl ?_); refine goesL_ (some 31) rfl rfl Try.func33 (by kernel_rfl) rfl #[.pointer (some ⟨g, 0, none⟩), .int .i64 4] rfl zG ?_; (with_reducible refine (spec_l1Below.calls g s0_0 t195 t196 4 t197 t198 t199 w0 _ ?s1 ?s2 A35.o).mono ?_); (case s1 => exact spec_l14Pair.zI69 HI0); (case s2 => exact zB HB); rintro e w51 ⟨rfl, hi, hb, hk⟩; refine ⟨_, rfl, ?_⟩; replace HO_183001 := IsS69.kR HI0 HO_183001 hk; replace HO_183002 := IsS69.kR HI0 HO_183002 hk; replace HO_191001 := IsS69.kR HI0 HO_191001 hk; replace HO_191002 := IsS69.kR HI0 HO_191002 hk; replace BK171 := kbT hk BK171 NB171_0; replace BK172 := kbT hk BK172 NB172_0; replace BK182 := kbT hk BK182 NB182_0; replace BK190 := kbT hk BK190 NB190_0; replace HK := hkT HK hk; replace HB := aM (hb); replace HI0 := aM (hi); (try clear hb)))
       replace HO_183001 := aM (rD HO_183001.o)
       replace HO_183002 := aM (rD HO_183002.o)
       replace HO_191001 := aM (rD HO_191001.o)
       replace HO_191002 := aM (rD HO_191002.o)
       replace BK171 := aM (bD BK171.o)
       replace BK172 := aM (bD BK172.o)
       replace BK182 := aM (bD BK182.o)
       replace BK190 := aM (bD BK190.o)
       replace HI0 := aM (IsS69.drew HI0.o)
       replace HK := aM (keep_drew HK.o)
       replace HB := aM (below_drew1 HB.o)
       have q53 : (t194 : Int) ≤ ((x191002_1.length : Int) : Int) := zD
       obtain ⟨i053, hi053, _, hsz53, _⟩ := info_parts info46
       have hroom53 : x191002_1.length ≤ co49 := (rQ HO_191002.o).2.1
       have hC53 : Kd.C k46 _ Ao49 x191002_1.length x191002_1 := (rQ HO_191002.o).2.2
       have hcut53 := cut_to (P := Try.prog) 25 46 .i64 Try.underlying25 hi053 Ao49 x191002_1.length co49 t194 (zD) q53 hroom53
       have hr53 := Kd.C_take (m := (t194 : Int).toNat) hC53 (by omega)
       have hy53 : y203.length = (t194 : Int).toNat := (by rw [Ny203.o, List.length_take]; omega)
       rw [← Ny203.o] at hr53
       rw [← hy53] at hcut53
       have HR206 := aM hr53
       have HC206 := aM (show y203.length ≤ co49 from by omega)
       clear hr53 hC53 hroom53 hi053 hsz53
       have KY53 := aM hy53
       clear hy53
       have KL53 := aM (show (t194 : Int).toNat ≤ x191002_1.length from by omega)
       replace q53 := eq_true q53
       have q54 : ((ji40) : Int) ≤ ((x191002_1.length : Int) : Int) := zD
       obtain ⟨i054, hi054, _, hsz54, _⟩ := info_parts info46
       have hroom54 : x191002_1.length ≤ co49 := (rQ HO_191002.o).2.1
       have hC54 : Kd.C k46 _ Ao49 x191002_1.length x191002_1 := (rQ HO_191002.o).2.2
       have q054 : (0 : Int) ≤ ((ji40) : Int) := zD
       have hcut54 := cut_from (P := Try.prog) 25 46 .i64 Try.underlying25 hi054 4 hsz54 Ao49 x191002_1.length co49 (ji40) q054 q54
       have hr54 := Kd.C_drop (m := ((ji40) : Int).toNat) (c := co49) hC54 (by omega) hroom54
       obtain ⟨A54, hA54⟩ : ∃ A1, A1 = (if co49 = ((ji40) : Int).toNat then Ao49 else (Ao49 : Option Addr).map (·.add (((ji40) : Int).toNat * 4))) := ⟨_, rfl⟩
       obtain ⟨c54, hc54⟩ : ∃ c1, c1 = co49 - ((ji40) : Int).toNat := ⟨_, rfl⟩
       have hy54 : y210.length = x191002_1.length - ((ji40) : Int).toNat := (by rw [Ny210.o, List.length_drop] <;> omega)
       rw [show (x191002_1).drop ((ji40) : Int).toNat = y210 from Ny210.o.symm] at hr54
       replace hr54 : Kd.C k46 _ A54 y210.length y210 := (by rw [hA54]; exact hr54)
       rw [← hy54, ← hA54, ← hc54] at hcut54
       have HR213 := aM hr54
       have HC213 := aM (show y210.length ≤ c54 from by rw [hy54, hc54]; exact Nat.sub_le_sub_right hroom54 _)
       clear hr54 hC54 hroom54 hi054 hsz54 hc54
       have KY54 := aM hy54
       have KA54 := aM hA54
       clear hy54 hA54
       have KL54 := aM (show ((ji40) : Int).toNat ≤ x191002_1.length from by omega)
       replace q54 := eq_true q54
       refine start_ (n := 14) (S := fun w' => w'.cell? ⟨gb190, 0, none⟩ = some (.int .i64 t183) ∧ w'.cell? ⟨gb190, 1, none⟩ = some (.slice Ao22 t184.length co22) ∧ w'.cell? ⟨gb190, 2, none⟩ = some (.slice Ao49 x191002_1.length co49)) (ds := [13]) (bm 14 0) (by kernel_rfl) rfl (bm0 _) ⟨bc0 BK190, bc1 BK190, bc2 BK190⟩ (fun hK4 => ?_); refine with_tabW spec_l14Pair.tab9 spec_l14Pair.bits9 (fun HT_ HW_ => ?_)
       generalize w51.drew = w52 at HO_183001 HO_183002 HO_191001 HO_191002 BK171 BK172 BK182 BK190 HI0 HK HB HR206 HR213 hK4 ⊢
       refine pW 1 35 14 2 HT_ rfl rfl ?_
       refine pW 3 37 14 10 HT_ rfl rfl ?_
       refine pW 6 40 14 74 HT_ rfl rfl ?_
       refine pW 8 42 14 330 HT_ rfl rfl ?_
       refine pW 9 43 14 842 HT_ rfl rfl ?_
       refine tW 2 36 14 846 HT_ HW_ rfl rfl hK4 ?_
       refine pW 4 38 14 862 HT_ rfl rfl ?_
       refine tW 7 41 14 990 HT_ HW_ rfl rfl hK4 ?_
       refine pW 10 44 14 2014 HT_ rfl rfl ?_
       refine one_ (i := 0) (N := some 34) (bm 14 2015) rfl rfl (one_of HT_.o (by kernel_rfl)) (by decide) (fun K hK => ?_)
       refine Kd.R_lit_step k46 _ 46 ?hg (N := 34) ?hd (xs := ([] : List (S46))) (inner := []) (ok := fun _ => True) (okp := fun _ => True) ?hr ?hp (fun _ hk => hk) trivial (Below.refl _ _) (Nat.le_refl _) (by simp) ?_; (case hd => rfl); (case hg => rfl); (case hr => first | (go_simp; done) | (go_simp; rfl)); (case hp => exact (Reps.none _ _))
       intro v201 w55 ho56 hb hg_ hnew_
       clear hg_ hnew_
       (first | rw [← Ny200.o] at ho56 | (simp only [Int.reduceToNat] at ho56; rw [← Ny200.o] at ho56))
       replace HO_183001 := aM (rW (zR HO_183001) hb)
       replace HO_191001 := aM (rW (zR HO_191001) hb)
       have HO202 := aM (rO (Kd.R_new' (Kd.R_new' ho56 (Kd.R_lt (zR HO_183002))) (Kd.R_lt (zR HO_191002))) (keep_size (w := w) (g := g) (row := none) (zH HK)))
       replace HO_183002 := aM (Kd.R_elder' (zR HO_183002) (Kd.R_base ho56) hb)
       replace HO_191002 := aM (Kd.R_elder' (zR HO_191002) (Kd.R_base ho56) hb)
       replace BK171 := kB BK171 hb
       replace BK172 := kB BK172 hb
       replace BK182 := kB BK182 hb
       replace BK190 := kB BK190 hb
       replace HR206 := aM (Kd.C_below (by repeat (first | (with_reducible exact HR206.o) | (with_reducible refine qA ?_ _) | (with_reducible refine qN ?_ _) | (with_reducible refine qD ?_) | exact HR206.o)) hb)
       replace HR213 := aM (Kd.C_below (by repeat (first | (with_reducible exact HR213.o) | (with_reducible refine qA ?_ _) | (with_reducible refine qN ?_ _) | (with_reducible refine qD ?_) | exact HR213.o)) hb)
       replace HK := hkB HK hb
       replace HB := bS HB hb
       replace HI0 := aM (IsS69.below (spec_l14Pair.zI69 HI0) hb)
       clear hb ho56
       refine hK.out _ _ ⟨bc0 BK190, bc1 BK190, bc2 BK190⟩ (fun hK4 => ?_)
       clear hK K
       refine nU 34 ?_
       refine one_ (i := 5) (N := some 39) (bm 14 2047) rfl rfl (one_of HT_.o (by kernel_rfl)) (by decide) (fun K hK => ?_)
       refine Kd.R_append_rows_step k46 w.heap.size (by rfl) (.tmp 34) (.tmp 38) 25 46 (.agg #[(.int .i64 0), (.bool false), (.int .i64 0), (.int .i64 0)]) 32 rfl Try.underlying25 info46 rfl (by decide) (by omega) v201 y200 y203 _ _ _ (fun k_ => some k_ ≠ (u183002 : Value).ownBlock ∧ some k_ ≠ (.slice Ao49 x191002_1.length co49 : Value).ownBlock) (fun _ => False) rfl rfl ?aO ?aR (fun _ _ h => h) (fun _ h => h.elim) ?aF (Below.refl _ _) ?aS ?aL ?_
       (case aR => repeat (first | exact (by repeat (first | (with_reducible exact HR206.o) | (with_reducible refine qA ?_ _) | (with_reducible refine qN ?_ _) | (with_reducible refine qD ?_) | exact HR206.o)) | (with_reducible refine qA ?_ _) | (with_reducible refine qN ?_ _) | (with_reducible refine qD ?_)))
       (case aF => exact (fun k_ hk => ⟨Kd.fresh' (Kd.R_lt (zR HO_183002)) k_ hk, Kd.fresh' (Kd.R_lt (zR HO_191002)) k_ hk⟩))
       (case aO => exact (by (with_reducible repeat (first | apply rA | apply rN | apply rD)); exact rM HO202.o (fun _ hk => ⟨hk.1.2, hk.2⟩)))
       (case aS => exact (keep_size (w := w) (g := g) (row := none) (zH HK)))
       (case aL => have := LMc39.o; omega)
       intro v208 w57 ho hb hg hat
       rw [← Ny207.o] at ho
       replace HO_183001 := aM (Kd.R_over' (zR HO_183001) (Kd.R_typed (zR HO202)) (by decide) hg)
       replace HO_183002 := aM (Kd.R_after (ok := (fun k_ => some k_ ≠ (.slice Ao49 x191002_1.length co49 : Value).ownBlock)) (zR HO_183002) hg hat)
       replace HO_191001 := aM (Kd.R_over' (zR HO_191001) (Kd.R_typed (zR HO202)) (by decide) hg)
       replace BK171 := aM (blk_grown (g := gb171) (o := .cells #[.int .i64 0, .slice none 0 0, .slice none 0 0] 27 (0, 0)) (zK BK171) hg (Kd.R_ne HO202.o BK171.o (by decide)))
       replace BK172 := aM (blk_grown (g := gb172) (o := .cells #[.int .i64 0, .slice none 0 0, .slice none 0 0] 27 (0, 0)) (zK BK172) hg (Kd.R_ne HO202.o BK172.o (by decide)))
       replace BK182 := aM (blk_grown (g := gb182) (o := .cells #[.int .i64 t173, .slice Ao13 t174.length co13, u183002] 27 (0, 0)) (zK BK182) hg (Kd.R_ne HO202.o BK182.o (by decide)))
       replace BK190 := aM (blk_grown (g := gb190) (o := .cells #[.int .i64 t183, .slice Ao22 t184.length co22, .slice Ao49 x191002_1.length co49] 27 (0, 0)) (zK BK190) hg (Kd.R_ne HO202.o BK190.o (by decide)))
       replace HB := aM (below_weaken (zB HB) HL.o hb)
       replace HI0 := aM (IsS69.grown (spec_l14Pair.zI69 HI0) hg (IsS69.own_ne HI0.o HO202.o (by decide)))
       replace HK := aM (KeepBut.trans (zH HK) (KeepBut.of_grown hg g) (Kd.R_base2 HO202.o))
       replace HR206 := aM ((show Kd.C k46 w57 Ao49 y203.length y203 from by rw [Ny203.o]; exact Kd.C_take (m := (t194 : Int).toNat) ((rQ (Kd.R_after (ok := (fun k_ => some k_ ≠ (u183002 : Value).ownBlock)) (zR HO_191002) hg hat)).2.2) KL53.o))
       replace HR213 := aM ((show Kd.C k46 w57 A54 y210.length y210 from by rw [Ny210.o, KA54.o]; exact Kd.C_drop (m := ((ji40) : Int).toNat) (c := co49) ((rQ (Kd.R_after (ok := (fun k_ => some k_ ≠ (u183002 : Value).ownBlock)) (zR HO_191002) hg hat)).2.2) KL54.o ((rQ (Kd.R_after (ok := (fun k_ => some k_ ≠ (u183002 : Value).ownBlock)) (zR HO_191002) hg hat)).2.1)))
       replace HO_191002 := aM (Kd.R_after (ok := (fun k_ => some k_ ≠ (u183002 : Value).ownBlock)) (zR HO_191002) hg hat)
       have HO209 := aM (ho)
       clear HO202
       clear ho hb hg hat
       refine hK.out _ _ ⟨bc0 BK190, bc1 BK190, bc2 BK190⟩ (fun hK4 => ?_)
       clear hK K
       refine nU 39 ?_
       refine one_ (i := 11) (N := some 45) (bm 14 4095) rfl rfl (one_of HT_.o (by kernel_rfl)) (by decide) (fun K hK => ?_)
       refine Kd.R_append_rows_step k46 w.heap.size (by rfl) (.tmp 39) (.tmp 44) 25 46 (.agg #[(.int .i64 0), (.bool false), (.int .i64 0), (.int .i64 0)]) 32 rfl Try.underlying25 info46 rfl (by decide) (by omega) v208 y207 y210 _ _ _ (fun k_ => some k_ ≠ (u183002 : Value).ownBlock ∧ some k_ ≠ (.slice Ao49 x191002_1.length co49 : Value).ownBlock) (fun _ => False) rfl rfl ?aO ?aR (fun _ _ h => h) (fun _ h => h.elim) ?aF (Below.refl _ _) ?aS ?aL ?_
       (case aR => repeat (first | exact (by repeat (first | (with_reducible exact HR213.o) | (with_reducible refine qA ?_ _) | (with_reducible refine qN ?_ _) | (with_reducible refine qD ?_) | exact HR213.o)) | (with_reducible refine qA ?_ _) | (with_reducible refine qN ?_ _) | (with_reducible refine qD ?_)))
       (case aF => exact (fun k_ hk => ⟨Kd.fresh' (Kd.R_lt (zR HO_183002)) k_ hk, Kd.fresh' (Kd.R_lt (zR HO_191002)) k_ hk⟩))
       (case aO => exact (zR HO209))
       (case aS => exact (keep_size (w := w) (g := g) (row := none) (zH HK)))
       (case aL => have := LMc43.o; omega)
       intro v215 w58 ho hb hg hat
       rw [← Ny214.o] at ho
       replace HO_183001 := aM (Kd.R_over' (zR HO_183001) (Kd.R_typed (zR HO209)) (by decide) hg)
       replace HO_183002 := aM (Kd.R_after (ok := (fun k_ => some k_ ≠ (.slice Ao49 x191002_1.length co49 : Value).ownBlock)) (zR HO_183002) hg hat)
       replace HO_191001 := aM (Kd.R_over' (zR HO_191001) (Kd.R_typed (zR HO209)) (by decide) hg)
       replace BK171 := aM (blk_grown (g := gb171) (o := .cells #[.int .i64 0, .slice none 0 0, .slice none 0 0] 27 (0, 0)) (zK BK171) hg (Kd.R_ne HO209.o BK171.o (by decide)))
       replace BK172 := aM (blk_grown (g := gb172) (o := .cells #[.int .i64 0, .slice none 0 0, .slice none 0 0] 27 (0, 0)) (zK BK172) hg (Kd.R_ne HO209.o BK172.o (by decide)))
       replace BK182 := aM (blk_grown (g := gb182) (o := .cells #[.int .i64 t173, .slice Ao13 t174.length co13, u183002] 27 (0, 0)) (zK BK182) hg (Kd.R_ne HO209.o BK182.o (by decide)))
       replace BK190 := aM (blk_grown (g := gb190) (o := .cells #[.int .i64 t183, .slice Ao22 t184.length co22, .slice Ao49 x191002_1.length co49] 27 (0, 0)) (zK BK190) hg (Kd.R_ne HO209.o BK190.o (by decide)))
       replace HB := aM (below_weaken (zB HB) HL.o hb)
       replace HI0 := aM (IsS69.grown (spec_l14Pair.zI69 HI0) hg (IsS69.own_ne HI0.o HO209.o (by decide)))
       replace HK := aM (KeepBut.trans (zH HK) (KeepBut.of_grown hg g) (Kd.R_base2 HO209.o))
       replace HR206 := aM ((show Kd.C k46 w58 Ao49 y203.length y203 from by rw [Ny203.o]; exact Kd.C_take (m := (t194 : Int).toNat) ((rQ (Kd.R_after (ok := (fun k_ => some k_ ≠ (u183002 : Value).ownBlock)) (zR HO_191002) hg hat)).2.2) KL53.o))
       replace HR213 := aM ((show Kd.C k46 w58 A54 y210.length y210 from by rw [Ny210.o, KA54.o]; exact Kd.C_drop (m := ((ji40) : Int).toNat) (c := co49) ((rQ (Kd.R_after (ok := (fun k_ => some k_ ≠ (u183002 : Value).ownBlock)) (zR HO_191002) hg hat)).2.2) KL54.o ((rQ (Kd.R_after (ok := (fun k_ => some k_ ≠ (u183002 : Value).ownBlock)) (zR HO_191002) hg hat)).2.1)))
       replace HO_191002 := aM (Kd.R_after (ok := (fun k_ => some k_ ≠ (u183002 : Value).ownBlock)) (zR HO_191002) hg hat)
       have HO216 := aM (ho)
       clear HO209
       clear ho hb hg hat
       obtain ⟨Ao59, co59, eo59⟩ := rL HO216.o
       (first | subst eo59 | (obtain ⟨f4_, f5_⟩ := slI eo59; subst f4_; subst f5_))
       refine hK.out _ _ ⟨bc0 BK190, bc1 BK190, bc2 BK190⟩ (fun hK4 => ?_)
       clear hK K
       refine nU 45 ?_
       refine pW 12 46 14 8191 HT_ rfl rfl ?_
       refine last_ (i := 13) (N := none) (bm 14 16383) rfl rfl (one_of HT_.o (by kernel_rfl)) (by decide) (fun K hK => ?_)
       have hs60 : w58.cell? ⟨gb190, 2, none⟩ = some (.slice Ao49 x191002_1.length co49) := bc2 BK190
       have hfs60 := bf BK190 2
       have hns60_0 := NB171_190.o
       have hns60_1 := NB172_190.o
       have hns60_2 := NB182_190.o
       have hms60_0 := NB190_171.o
       have hms60_1 := NB190_172.o
       have hms60_2 := NB190_182.o
       refine skip_ (w1 := ?_) (by rfl) rfl ?_ ?_
       rotate_left
       ·go_simp
        rfl
       refine hK.out _ _ ?_
       clear hK K
       refine done_ (done_of HT_.o (by kernel_rfl)) ?_
       try clear hK4
       try go_wp2
       go_roundg kj24
       case measure => have := HK1.o; have := HJ24.o; omega
       case rel => exact ⟨(wrap64 (x6_1 - 1)), (t198), (t199), (x183002_1), (y214), (u183002), (.slice Ao59 y214.length co59), zF, H', ⟨by have := HK1.o; have := HJ24.o; omega⟩, ⟨rM (rB HO_183001 BK190) (fun _ hk => hk.1)⟩, ⟨rM (rB HO_183002 BK190) (fun _ hk => hk.1.2)⟩, ⟨rM (rB HO_191001 BK190) (fun _ hk => hk.1)⟩, ⟨rM (rB HO216 BK190) (fun _ hk => hk.1.1)⟩, ⟨kF BK171⟩, ⟨kF BK172⟩, ⟨kF BK182⟩, ⟨by (with_reducible repeat (first | apply bN | apply bD | apply bA)); refine bP (cs := #[.int .i64 t183, .slice Ao22 t184.length co22, .slice Ao49 x191002_1.length co49]) ?_ 2 _ rfl; (with_reducible repeat (first | apply bN | apply bD | apply bA)); exact BK190.o⟩, ⟨spec_l14Pair.zI69 HI0⟩, ⟨zH HK⟩, ⟨zB HB⟩⟩
      ·rw [if_neg c36] at H
       have c36b0 : (t197 == 0) = false := beq_eq_false_iff_ne.mpr c36
       have c36b1 : (t197 != 0) = true := bne_iff_ne.mpr c36
       by_cases c61 : t197 = 1
       ·rw [if_pos c61] at H
        have c61b0 : (t197 == 1) = true := beq_iff_eq.mpr c61
        have c61b1 : (t197 != 1) = false := bne_eq_false_iff_eq.mpr c61
        clear c61
        obtain ⟨c62, H⟩ := ifS H
        have c62b0 : decide (0 ≤ t194) = true := dT c62
        clear c62
        obtain ⟨c63, H⟩ := ifS H
        have c63b0 : decide (t194 < (x191002_1.length : Int)) = true := dT c63
        clear c63
        replace H := oB.mp H
        obtain ⟨⟨t219, t220, t221⟩, A640, H⟩ := H
        dsimp only at H
        have A64 := aM A640
        clear A640
        obtain ⟨t222, A65, H⟩ := bindS H
        by_cases c66 : t222 < 0
        ·rw [if_pos c66] at H
         have c66b0 : decide (t222 < 0) = true := dT c66
         clear c66
         obtain ⟨c67, H⟩ := ifS H
         have LMc67 := aM c67
         clear c67
         obtain ⟨y223, hy223⟩ : ∃ y_ : List (S46), y_ = (x191002_1 ++ [(⟨(rd_T46 x191002_1 t194).f0, (rd_T46 x191002_1 t194).f1, t219, (rd_T46 x191002_1 t194).f3⟩ : S46)]) := ⟨_, rfl⟩
         replace H : (spec_l14Pair.l0 kj24 (wrap64 (x6_1 - 1)) s0_0 t220 t221 t173 t174 x183002_1 t183 t184 y223) = some (r1, r2, r3, r4, r5, r6, r7, r8) := by first | (rw [hy223]; with_reducible exact H) | (rw [hy223]; exact H) | exact H
         have Ny223 := aM hy223
         clear hy223
         have H' := aM H
         clear H
         have hnb68 := NB190_171.o
         have hnc68 := NB171_190.o
         have hnb69 := NB190_172.o
         have hnc69 := NB172_190.o
         have hnb70 := NB190_182.o
         have hnc70 := NB182_190.o
         have hnb71 := NB190_0.o
         have hnc71 := NB0_190.o
         obtain ⟨z72_0, z72_1, z72_2, f72_0, f72_1, f72_2⟩ := bq3 BK190
         obtain ⟨Ao73, co73, eo73⟩ := rL HO_191002.o
         subst eo73
         go_wp2_with (first | ((with_reducible refine gC (f := 33) rfl ?_); refine goesL_ (some 29) rfl rfl Try.func33 (by kernel_rfl) rfl #[.pointer (some ⟨g, 0, none⟩), .int .i64 (x191002_1.length : Int)] rfl zG ?_; (with_reducible refine (spec_l1Below.calls g s0_0 x1001_1 x1002_1 (x191002_1.length : Int) t194 t195 t196 w0 _ ?s1 ?s2 A34.o).mono ?_); (case s1 => exact spec_l14Pair.zI69 HI0); (case s2 => exact zB HB); rintro e w74 ⟨rfl, hi, hb, hk⟩; refine ⟨_, rfl, ?_⟩; replace HO_183001 := IsS69.kR HI0 HO_183001 hk; replace HO_183002 := IsS69.kR HI0 HO_183002 hk; replace HO_191001 := IsS69.kR HI0 HO_191001 hk; replace HO_191002 := IsS69.kR HI0 HO_191002 hk; replace BK171 := kbT hk BK171 NB171_0; replace BK172 := kbT hk BK172 NB172_0; replace BK182 := kbT hk BK182 NB182_0; replace BK190 := kbT hk BK190 NB190_0; replace HK := hkT HK hk; replace HB := aM (hb); replace HI0 := aM (hi); (try clear hb)) | ((with_reducible refine gC (f := 33) rfl ?_); refine goesL_ (some 31) rfl rfl Try.func33 (by kernel_rfl) rfl #[.pointer (some ⟨g, 0, none⟩), .int .i64 4] rfl zG ?_; (with_reducible refine (spec_l1Below.calls g s0_0 t195 t196 4 t197 t198 t199 w0 _ ?s1 ?s2 A35.o).mono ?_); (case s1 => exact spec_l14Pair.zI69 HI0); (case s2 => exact zB HB); rintro e w75 ⟨rfl, hi, hb, hk⟩; refine ⟨_, rfl, ?_⟩; replace HO_183001 := IsS69.kR HI0 HO_183001 hk; replace HO_183002 := IsS69.kR HI0 HO_183002 hk; replace HO_191001 := IsS69.kR HI0 HO_191001 hk; replace HO_191002 := IsS69.kR HI0 HO_191002 hk; replace BK171 := kbT hk BK171 NB171_0; replace BK172 := kbT hk BK172 NB172_0; replace BK182 := kbT hk BK182 NB182_0; replace BK190 := kbT hk BK190 NB190_0; replace HK := hkT HK hk; replace HB := aM (hb); replace HI0 := aM (hi); (try clear hb); obtain ⟨z76_0, z76_1, z76_2, f76_0, f76_1, f76_2⟩ := bq3 BK190; have p217 : 0 ≤ (t194 : Int) := zD; have q217 : t194 < (x191002_1.length : Int) := zD; obtain ⟨ad217, e217, hx217_0, hx217_1, hx217_2, hx217_3⟩ := at_T46 (rQ HO_191002.o).2.2 t194 p217 q217; cases e217; replace p217 := eq_true p217; replace q217 := eq_true q217) | ((with_reducible refine gD (N := 8) rfl ?_); (try (refine gate_guard (by rfl) ?_; dsimp only)); refine box_event ?hg (N := 8) ?hd (cs := #[.int .i64 0, .bool false, .int .i64 0, .int .i64 0]) (t := 46) ?hr ?_; (case hd => rfl); (case hg => rfl); (case hr => first | (go_simp; done) | (go_simp; rfl)); intro gb218 hg w77 hbox hb; replace HO_183001 := aM (rW (zR HO_183001) hb); replace HO_183002 := aM (rW (Kd.R_elderB (zR HO_183002) gb218 (Nat.le_of_eq hg.symm)) hb); replace HO_191001 := aM (rW (zR HO_191001) hb); replace HO_191002 := aM (rW (Kd.R_elderB (zR HO_191002) gb218 (Nat.le_of_eq hg.symm)) hb); replace HB := bS HB hb; have BK218 := aM (hbox); have GW218 := gK HK hg; have GE218 := gL HW0 GW218; replace HK := hkB HK hb; have NB171_218 := nL BK171 hg; have NB218_171 := nR BK171 hg; replace BK171 := kB BK171 hb; have NB172_218 := nL BK172 hg; have NB218_172 := nR BK172 hg; replace BK172 := kB BK172 hb; have NB182_218 := nL BK182 hg; have NB218_182 := nR BK182 hg; replace BK182 := kB BK182 hb; have NB190_218 := nL BK190 hg; have NB218_190 := nR BK190 hg; replace BK190 := kB BK190 hb; have NB0_218 := IsS69.nL HI0 hg; have NB218_0 := IsS69.nR HI0 hg; replace HI0 := aM (IsS69.below (spec_l14Pair.zI69 HI0) hb); clear hb hbox hg; have hnb78 := NB218_171.o; have hnc78 := NB171_218.o; have hnb79 := NB218_172.o; have hnc79 := NB172_218.o; have hnb80 := NB218_182.o; have hnc80 := NB182_218.o; have hnb81 := NB218_190.o; have hnc81 := NB190_218.o; have hnb82 := NB218_0.o; have hnc82 := NB0_218.o; obtain ⟨z83_0, z83_1, z83_2, z83_3, f83_0, f83_1, f83_2, f83_3⟩ := bq4 BK218) | ((with_reducible refine gC (f := 33) rfl ?_); refine goesL_ (some 55) rfl rfl Try.func33 (by kernel_rfl) rfl #[.pointer (some ⟨g, 0, none⟩), .int .i64 4] rfl zG ?_; (with_reducible refine (spec_l1Below.calls g s0_0 t198 t199 4 t219 t220 t221 w0 _ ?s1 ?s2 A64.o).mono ?_); (case s1 => exact spec_l14Pair.zI69 HI0); (case s2 => exact zB HB); rintro e w84 ⟨rfl, hi, hb, hk⟩; refine ⟨_, rfl, ?_⟩; replace HO_183001 := aM (rM (Kd.R_keep (IsS69.apart (show IsS69 w0 _ g s0_0 t198 t199 from spec_l14Pair.zI69 HI0) ((rM (rB HO_183001 BK218) (fun _ h_ => h_.1))) (by decide)) hk (fun _ h => h.2)) (fun _ h => h.1)); replace HO_183002 := aM (rM (Kd.R_keep (IsS69.apart (show IsS69 w0 _ g s0_0 t198 t199 from spec_l14Pair.zI69 HI0) (by (with_reducible repeat (first | apply rA | apply rN | apply rD)); exact (rM (Kd.R_far (p := ⟨gb218, 3, none⟩) (Kd.R_far (p := ⟨gb218, 2, none⟩) (Kd.R_far (p := ⟨gb218, 1, none⟩) (Kd.R_far (p := ⟨gb218, 0, none⟩) (rM HO_183002.o (fun k_ hk => (⟨hk, hk.2⟩ : _ ∧ k_ ≠ gb218))) (fun _ hk => hk.2) (.int .i64 ((rd_T46 x191002_1 t194).f0))) (fun _ hk => hk.2) (.bool ((rd_T46 x191002_1 t194).f1))) (fun _ hk => hk.2) (.int .i64 ((rd_T46 x191002_1 t194).f2))) (fun _ hk => hk.2) (.int .i64 ((rd_T46 x191002_1 t194).f3))) (fun _ h_ => h_.1))) (by decide)) hk (fun _ h => h.2)) (fun _ h => h.1)); replace HO_191001 := aM (rM (Kd.R_keep (IsS69.apart (show IsS69 w0 _ g s0_0 t198 t199 from spec_l14Pair.zI69 HI0) ((rM (rB HO_191001 BK218) (fun _ h_ => h_.1))) (by decide)) hk (fun _ h => h.2)) (fun _ h => h.1)); replace HO_191002 := aM (rM (Kd.R_keep (IsS69.apart (show IsS69 w0 _ g s0_0 t198 t199 from spec_l14Pair.zI69 HI0) (by (with_reducible repeat (first | apply rA | apply rN | apply rD)); exact (rM (Kd.R_far (p := ⟨gb218, 3, none⟩) (Kd.R_far (p := ⟨gb218, 2, none⟩) (Kd.R_far (p := ⟨gb218, 1, none⟩) (Kd.R_far (p := ⟨gb218, 0, none⟩) (rM HO_191002.o (fun k_ hk => (⟨hk, hk.2⟩ : _ ∧ k_ ≠ gb218))) (fun _ hk => hk.2) (.int .i64 ((rd_T46 x191002_1 t194).f0))) (fun _ hk => hk.2) (.bool ((rd_T46 x191002_1 t194).f1))) (fun _ hk => hk.2) (.int .i64 ((rd_T46 x191002_1 t194).f2))) (fun _ hk => hk.2) (.int .i64 ((rd_T46 x191002_1 t194).f3))) (fun _ h_ => h_.1))) (by decide)) hk (fun _ h => h.2)) (fun _ h => h.1)); replace BK171 := kbT hk BK171 NB171_0; replace BK172 := kbT hk BK172 NB172_0; replace BK182 := kbT hk BK182 NB182_0; replace BK190 := kbT hk BK190 NB190_0; replace BK218 := aM (KeepBut.blk hk (g' := gb218) (o := .cells #[.int .i64 ((rd_T46 x191002_1 t194).f0), .bool ((rd_T46 x191002_1 t194).f1), .int .i64 ((rd_T46 x191002_1 t194).f2), .int .i64 ((rd_T46 x191002_1 t194).f3)] 46 (0, 0)) (by (with_reducible repeat (first | apply bN | apply bD | apply bA)); refine bP (cs := #[.int .i64 ((rd_T46 x191002_1 t194).f0), .bool ((rd_T46 x191002_1 t194).f1), .int .i64 ((rd_T46 x191002_1 t194).f2), .int .i64 0]) ?_ 3 _ rfl; (with_reducible repeat (first | apply bN | apply bD | apply bA)); refine bP (cs := #[.int .i64 ((rd_T46 x191002_1 t194).f0), .bool ((rd_T46 x191002_1 t194).f1), .int .i64 0, .int .i64 0]) ?_ 2 _ rfl; (with_reducible repeat (first | apply bN | apply bD | apply bA)); refine bP (cs := #[.int .i64 ((rd_T46 x191002_1 t194).f0), .bool false, .int .i64 0, .int .i64 0]) ?_ 1 _ rfl; (with_reducible repeat (first | apply bN | apply bD | apply bA)); refine bP (cs := #[.int .i64 0, .bool false, .int .i64 0, .int .i64 0]) ?_ 0 _ rfl; (with_reducible repeat (first | apply bN | apply bD | apply bA)); exact BK218.o) NB218_0.o (by simp)); replace HK := hkT HK hk; replace HB := aM (hb); replace HI0 := aM (hi); (try clear hb); obtain ⟨z85_0, z85_1, z85_2, z85_3, f85_0, f85_1, f85_2, f85_3⟩ := bq4 BK218; obtain ⟨z86_0, z86_1, z86_2, f86_0, f86_1, f86_2⟩ := bq3 BK190) | ((with_reducible refine gC (f := 24) rfl ?_); refine goesL_ (some 64) rfl rfl Try.func24 (by kernel_rfl) rfl #[.agg #[.int .i64 t183, .slice Ao22 t184.length co22, .slice (some ad217) x191002_1.length co73], .int .i64 ((rd_T46 x191002_1 t194).f0), .bool ((rd_T46 x191002_1 t194).f1), .int .i64 t219] rfl zG ?_; (with_reducible refine (spec_MoveOf.calls kj24 t183 _ _ t184 _ _ x191002_1 ((rd_T46 x191002_1 t194).f0) ((rd_T46 x191002_1 t194).f1) t219 t222 _ ?s1 ?s2 ?s3 ?s4 A65.o).mono ?_); (case s1 => refine (rQ (e := 4) (base := w.heap.size) (ok := fun k_ => some k_ ≠ (.slice Ao13 t174.length co13 : Value).ownBlock) (n := t184.length) (c := co22) ?_).2.2; exact ((rM (rB HO_191001 BK218) (fun _ h_ => h_.1)))); (case s2 => exact (rQ HO_191001.o).2.1); (case s3 => refine (rQ (e := 46) (base := w.heap.size) (ok := fun k_ => (some k_ ≠ (u183002 : Value).ownBlock ∧ k_ ≠ gb218)) (n := x191002_1.length) (c := co73) ?_).2.2; exact (by (with_reducible repeat (first | apply rA | apply rN | apply rD)); exact (rM (Kd.R_far (p := ⟨gb218, 2, none⟩) (rM HO_191002.o (fun k_ hk => (⟨hk, hk.2⟩ : _ ∧ k_ ≠ gb218))) (fun _ hk => hk.2) (.int .i64 t219)) (fun _ h_ => h_.1)))); (case s4 => exact (rQ HO_191002.o).2.1); rintro e w87 ⟨rfl, hb⟩; refine ⟨_, rfl, ?_⟩; replace HO_183001 := aM (rW ((rM (rB HO_183001 BK218) (fun _ h_ => h_.1))) hb); replace HO_183002 := aM (rW (by (with_reducible repeat (first | apply rA | apply rN | apply rD)); exact (rM (Kd.R_far (p := ⟨gb218, 2, none⟩) (rM HO_183002.o (fun k_ hk => (⟨hk, hk.2⟩ : _ ∧ k_ ≠ gb218))) (fun _ hk => hk.2) (.int .i64 t219)) (fun _ h_ => h_.1))) hb); replace HO_191001 := aM (rW ((rM (rB HO_191001 BK218) (fun _ h_ => h_.1))) hb); replace HO_191002 := aM (rW (by (with_reducible repeat (first | apply rA | apply rN | apply rD)); exact (rM (Kd.R_far (p := ⟨gb218, 2, none⟩) (rM HO_191002.o (fun k_ hk => (⟨hk, hk.2⟩ : _ ∧ k_ ≠ gb218))) (fun _ hk => hk.2) (.int .i64 t219)) (fun _ h_ => h_.1))) hb); replace BK171 := aM (blk_below (kF BK171) hb); replace BK172 := aM (blk_below (kF BK172) hb); replace BK182 := aM (blk_below (kF BK182) hb); replace BK190 := aM (blk_below (kF BK190) hb); replace BK218 := aM (blk_below (g := gb218) (o := .cells #[.int .i64 ((rd_T46 x191002_1 t194).f0), .bool ((rd_T46 x191002_1 t194).f1), .int .i64 t219, .int .i64 ((rd_T46 x191002_1 t194).f3)] 46 (0, 0)) (by (with_reducible repeat (first | apply bN | apply bD | apply bA)); refine bP (cs := #[.int .i64 ((rd_T46 x191002_1 t194).f0), .bool ((rd_T46 x191002_1 t194).f1), .int .i64 ((rd_T46 x191002_1 t194).f2), .int .i64 ((rd_T46 x191002_1 t194).f3)]) ?_ 2 _ rfl; (with_reducible repeat (first | apply bN | apply bD | apply bA)); exact BK218.o) hb); replace HK := hkB HK hb; replace HB := bS HB hb; replace HI0 := aM (IsS69.below (show IsS69 w0 (w84.setCell ⟨gb218, 2, none⟩ (.int .i64 t219)) g s0_0 t220 t221 from spec_l14Pair.zI69 HI0) hb); (try clear hb); obtain ⟨z88_0, z88_1, z88_2, f88_0, f88_1, f88_2⟩ := bq3 BK190; obtain ⟨z89_0, z89_1, z89_2, z89_3, f89_0, f89_1, f89_2, f89_3⟩ := bq4 BK218) | ((with_reducible refine gate_builtin (b := .append) (xs := #[.tmp 67, .tmp 69]) rfl ?_); (try (refine gate_guard (by rfl) ?_; dsimp only)); at_builtin; refine Kd.R_append k46 w.heap.size rfl (.tmp 67) (.tmp 69) 25 46 (.agg #[(.int .i64 0), (.bool false), (.int .i64 0), (.int .i64 0)]) 32 rfl Try.underlying25 info46 rfl (by decide) (by omega) (.slice (some ad217) x191002_1.length co73) x191002_1 (⟨(rd_T46 x191002_1 t194).f0, (rd_T46 x191002_1 t194).f1, t219, (rd_T46 x191002_1 t194).f3⟩ : S46) [.int .i64 ((rd_T46 x191002_1 t194).f0), .bool ((rd_T46 x191002_1 t194).f1), .int .i64 t219, .int .i64 ((rd_T46 x191002_1 t194).f3)] (fun k_ => some k_ ≠ (u183002 : Value).ownBlock ∧ k_ ≠ gb218) (fun _ => False) rfl rfl ?aP (fun _ hk => hk.elim) ?aF ?aO (Below.refl _ _) ?aS ?aL ?_; (case aP => exact k46_mkM _ _ _ (⟨(rd_T46 x191002_1 t194).f0, (rd_T46 x191002_1 t194).f1, t219, (rd_T46 x191002_1 t194).f3⟩ : S46)); (case aF => exact (fun k_ hk => ⟨Kd.fresh' (Kd.R_lt (zR HO_183002)) k_ hk, Kd.freshB (g := gb218) (o := .cells #[.int .i64 ((rd_T46 x191002_1 t194).f0), .bool ((rd_T46 x191002_1 t194).f1), .int .i64 t219, .int .i64 ((rd_T46 x191002_1 t194).f3)] 46 (0, 0)) (zK BK218) k_ hk⟩)); (case aO => exact (zR HO_191002)); (case aS => exact (keep_size (w := w) (g := g) (row := none) (zH HK))); (case aL => have := LMc67.o; omega); intro v224 w90 ho hb hg hat; rw [← Ny223.o] at ho; replace HO_183001 := aM (Kd.R_over' (zR HO_183001) (Kd.R_typed (zR HO_191002)) (by decide) hg); replace HO_183002 := aM (Kd.R_after (ok := (fun k_ => k_ ≠ gb218)) (by (with_reducible repeat (first | apply rA | apply rN | apply rD)); exact rM HO_183002.o (fun _ hk => ⟨hk.2, hk.1⟩)) hg hat); replace HO_191001 := aM (Kd.R_over' (zR HO_191001) (Kd.R_typed (zR HO_191002)) (by decide) hg); replace BK171 := aM (blk_grown (g := gb171) (o := .cells #[.int .i64 0, .slice none 0 0, .slice none 0 0] 27 (0, 0)) (zK BK171) hg (Kd.R_ne HO_191002.o BK171.o (by decide))); replace BK172 := aM (blk_grown (g := gb172) (o := .cells #[.int .i64 0, .slice none 0 0, .slice none 0 0] 27 (0, 0)) (zK BK172) hg (Kd.R_ne HO_191002.o BK172.o (by decide))); replace BK182 := aM (blk_grown (g := gb182) (o := .cells #[.int .i64 t173, .slice Ao13 t174.length co13, u183002] 27 (0, 0)) (zK BK182) hg (Kd.R_ne HO_191002.o BK182.o (by decide))); replace BK190 := aM (blk_grown (g := gb190) (o := .cells #[.int .i64 t183, .slice Ao22 t184.length co22, .slice (some ad217) x191002_1.length co73] 27 (0, 0)) (zK BK190) hg (Kd.R_ne HO_191002.o BK190.o (by decide))); replace BK218 := aM (blk_grown (g := gb218) (o := .cells #[.int .i64 ((rd_T46 x191002_1 t194).f0), .bool ((rd_T46 x191002_1 t194).f1), .int .i64 t219, .int .i64 ((rd_T46 x191002_1 t194).f3)] 46 (0, 0)) (zK BK218) hg (Kd.R_away HO_191002.o (fun _ hk => hk.2))); replace HB := aM (below_weaken (zB HB) HL.o hb); replace HI0 := aM (IsS69.grown (spec_l14Pair.zI69 HI0) hg (IsS69.own_ne HI0.o HO_191002.o (by decide))); replace HK := aM (KeepBut.trans (zH HK) (KeepBut.of_grown hg g) (Kd.R_base2 HO_191002.o)); have HO225 := aM (ho); clear HO_191002; clear ho hb hg hat; obtain ⟨Ao91, co91, eo91⟩ := rL HO225.o; subst eo91; obtain ⟨z92_0, z92_1, z92_2, f92_0, f92_1, f92_2⟩ := bq3 BK190))
         go_roundg kj24
         case measure => have := HK1.o; have := HJ24.o; omega
         case rel => exact ⟨(wrap64 (x6_1 - 1)), (t220), (t221), (x183002_1), (y223), (u183002), (.slice Ao91 y223.length co91), zF, H', ⟨by have := HK1.o; have := HJ24.o; omega⟩, ⟨rM (rB HO_183001 BK190) (fun _ hk => hk.1)⟩, ⟨rM (rB HO_183002 BK190) (fun _ hk => hk.1.2)⟩, ⟨rM (rB HO_191001 BK190) (fun _ hk => hk.1)⟩, ⟨rM (rB HO225 BK190) (fun _ hk => hk.1.1)⟩, ⟨kF BK171⟩, ⟨kF BK172⟩, ⟨kF BK182⟩, ⟨by (with_reducible repeat (first | apply bN | apply bD | apply bA)); refine bP (cs := #[.int .i64 t183, .slice Ao22 t184.length co22, .slice (some ad217) x191002_1.length co73]) ?_ 2 _ rfl; (with_reducible repeat (first | apply bN | apply bD | apply bA)); exact BK190.o⟩, ⟨spec_l14Pair.zI69 HI0⟩, ⟨zH HK⟩, ⟨zB HB⟩⟩
        ·rw [if_neg c66] at H
         have c66b0 : decide (t222 < 0) = false := decide_eq_false c66
         clear c66
         have H' := aM H
         clear H
         have hnb93 := NB190_171.o
         have hnc93 := NB171_190.o
         have hnb94 := NB190_172.o
         have hnc94 := NB172_190.o
         have hnb95 := NB190_182.o
         have hnc95 := NB182_190.o
         have hnb96 := NB190_0.o
         have hnc96 := NB0_190.o
         obtain ⟨z97_0, z97_1, z97_2, f97_0, f97_1, f97_2⟩ := bq3 BK190
         obtain ⟨Ao98, co98, eo98⟩ := rL HO_191002.o
         subst eo98
         go_wp2_with (first | ((with_reducible refine gC (f := 33) rfl ?_); refine goesL_ (some 29) rfl rfl Try.func33 (by kernel_rfl) rfl #[.pointer (some ⟨g, 0, none⟩), .int .i64 (x191002_1.length : Int)] rfl zG ?_; (with_reducible refine (spec_l1Below.calls g s0_0 x1001_1 x1002_1 (x191002_1.length : Int) t194 t195 t196 w0 _ ?s1 ?s2 A34.o).mono ?_); (case s1 => exact spec_l14Pair.zI69 HI0); (case s2 => exact zB HB); rintro e w99 ⟨rfl, hi, hb, hk⟩; refine ⟨_, rfl, ?_⟩; replace HO_183001 := IsS69.kR HI0 HO_183001 hk; replace HO_183002 := IsS69.kR HI0 HO_183002 hk; replace HO_191001 := IsS69.kR HI0 HO_191001 hk; replace HO_191002 := IsS69.kR HI0 HO_191002 hk; replace BK171 := kbT hk BK171 NB171_0; replace BK172 := kbT hk BK172 NB172_0; replace BK182 := kbT hk BK182 NB182_0; replace BK190 := kbT hk BK190 NB190_0; replace HK := hkT HK hk; replace HB := aM (hb); replace HI0 := aM (hi); (try clear hb)) | ((with_reducible refine gC (f := 33) rfl ?_); refine goesL_ (some 31) rfl rfl Try.func33 (by kernel_rfl) rfl #[.pointer (some ⟨g, 0, none⟩), .int .i64 4] rfl zG ?_; (with_reducible refine (spec_l1Below.calls g s0_0 t195 t196 4 t197 t198 t199 w0 _ ?s1 ?s2 A35.o).mono ?_); (case s1 => exact spec_l14Pair.zI69 HI0); (case s2 => exact zB HB); rintro e w100 ⟨rfl, hi, hb, hk⟩; refine ⟨_, rfl, ?_⟩; replace HO_183001 := IsS69.kR HI0 HO_183001 hk; replace HO_183002 := IsS69.kR HI0 HO_183002 hk; replace HO_191001 := IsS69.kR HI0 HO_191001 hk; replace HO_191002 := IsS69.kR HI0 HO_191002 hk; replace BK171 := kbT hk BK171 NB171_0; replace BK172 := kbT hk BK172 NB172_0; replace BK182 := kbT hk BK182 NB182_0; replace BK190 := kbT hk BK190 NB190_0; replace HK := hkT HK hk; replace HB := aM (hb); replace HI0 := aM (hi); (try clear hb); obtain ⟨z101_0, z101_1, z101_2, f101_0, f101_1, f101_2⟩ := bq3 BK190; have p217 : 0 ≤ (t194 : Int) := zD; have q217 : t194 < (x191002_1.length : Int) := zD; obtain ⟨ad217, e217, hx217_0, hx217_1, hx217_2, hx217_3⟩ := at_T46 (rQ HO_191002.o).2.2 t194 p217 q217; cases e217; replace p217 := eq_true p217; replace q217 := eq_true q217) | ((with_reducible refine gD (N := 8) rfl ?_); (try (refine gate_guard (by rfl) ?_; dsimp only)); refine box_event ?hg (N := 8) ?hd (cs := #[.int .i64 0, .bool false, .int .i64 0, .int .i64 0]) (t := 46) ?hr ?_; (case hd => rfl); (case hg => rfl); (case hr => first | (go_simp; done) | (go_simp; rfl)); intro gb218 hg w102 hbox hb; replace HO_183001 := aM (rW (zR HO_183001) hb); replace HO_183002 := aM (rW (Kd.R_elderB (zR HO_183002) gb218 (Nat.le_of_eq hg.symm)) hb); replace HO_191001 := aM (rW (zR HO_191001) hb); replace HO_191002 := aM (rW (Kd.R_elderB (zR HO_191002) gb218 (Nat.le_of_eq hg.symm)) hb); replace HB := bS HB hb; have BK218 := aM (hbox); have GW218 := gK HK hg; have GE218 := gL HW0 GW218; replace HK := hkB HK hb; have NB171_218 := nL BK171 hg; have NB218_171 := nR BK171 hg; replace BK171 := kB BK171 hb; have NB172_218 := nL BK172 hg; have NB218_172 := nR BK172 hg; replace BK172 := kB BK172 hb; have NB182_218 := nL BK182 hg; have NB218_182 := nR BK182 hg; replace BK182 := kB BK182 hb; have NB190_218 := nL BK190 hg; have NB218_190 := nR BK190 hg; replace BK190 := kB BK190 hb; have NB0_218 := IsS69.nL HI0 hg; have NB218_0 := IsS69.nR HI0 hg; replace HI0 := aM (IsS69.below (spec_l14Pair.zI69 HI0) hb); clear hb hbox hg; have hnb103 := NB218_171.o; have hnc103 := NB171_218.o; have hnb104 := NB218_172.o; have hnc104 := NB172_218.o; have hnb105 := NB218_182.o; have hnc105 := NB182_218.o; have hnb106 := NB218_190.o; have hnc106 := NB190_218.o; have hnb107 := NB218_0.o; have hnc107 := NB0_218.o; obtain ⟨z108_0, z108_1, z108_2, z108_3, f108_0, f108_1, f108_2, f108_3⟩ := bq4 BK218) | ((with_reducible refine gC (f := 33) rfl ?_); refine goesL_ (some 55) rfl rfl Try.func33 (by kernel_rfl) rfl #[.pointer (some ⟨g, 0, none⟩), .int .i64 4] rfl zG ?_; (with_reducible refine (spec_l1Below.calls g s0_0 t198 t199 4 t219 t220 t221 w0 _ ?s1 ?s2 A64.o).mono ?_); (case s1 => exact spec_l14Pair.zI69 HI0); (case s2 => exact zB HB); rintro e w109 ⟨rfl, hi, hb, hk⟩; refine ⟨_, rfl, ?_⟩; replace HO_183001 := aM (rM (Kd.R_keep (IsS69.apart (show IsS69 w0 _ g s0_0 t198 t199 from spec_l14Pair.zI69 HI0) ((rM (rB HO_183001 BK218) (fun _ h_ => h_.1))) (by decide)) hk (fun _ h => h.2)) (fun _ h => h.1)); replace HO_183002 := aM (rM (Kd.R_keep (IsS69.apart (show IsS69 w0 _ g s0_0 t198 t199 from spec_l14Pair.zI69 HI0) (by (with_reducible repeat (first | apply rA | apply rN | apply rD)); exact (rM (Kd.R_far (p := ⟨gb218, 3, none⟩) (Kd.R_far (p := ⟨gb218, 2, none⟩) (Kd.R_far (p := ⟨gb218, 1, none⟩) (Kd.R_far (p := ⟨gb218, 0, none⟩) (rM HO_183002.o (fun k_ hk => (⟨hk, hk.2⟩ : _ ∧ k_ ≠ gb218))) (fun _ hk => hk.2) (.int .i64 ((rd_T46 x191002_1 t194).f0))) (fun _ hk => hk.2) (.bool ((rd_T46 x191002_1 t194).f1))) (fun _ hk => hk.2) (.int .i64 ((rd_T46 x191002_1 t194).f2))) (fun _ hk => hk.2) (.int .i64 ((rd_T46 x191002_1 t194).f3))) (fun _ h_ => h_.1))) (by decide)) hk (fun _ h => h.2)) (fun _ h => h.1)); replace HO_191001 := aM (rM (Kd.R_keep (IsS69.apart (show IsS69 w0 _ g s0_0 t198 t199 from spec_l14Pair.zI69 HI0) ((rM (rB HO_191001 BK218) (fun _ h_ => h_.1))) (by decide)) hk (fun _ h => h.2)) (fun _ h => h.1)); replace HO_191002 := aM (rM (Kd.R_keep (IsS69.apart (show IsS69 w0 _ g s0_0 t198 t199 from spec_l14Pair.zI69 HI0) (by (with_reducible repeat (first | apply rA | apply rN | apply rD)); exact (rM (Kd.R_far (p := ⟨gb218, 3, none⟩) (Kd.R_far (p := ⟨gb218, 2, none⟩) (Kd.R_far (p := ⟨gb218, 1, none⟩) (Kd.R_far (p := ⟨gb218, 0, none⟩) (rM HO_191002.o (fun k_ hk => (⟨hk, hk.2⟩ : _ ∧ k_ ≠ gb218))) (fun _ hk => hk.2) (.int .i64 ((rd_T46 x191002_1 t194).f0))) (fun _ hk => hk.2) (.bool ((rd_T46 x191002_1 t194).f1))) (fun _ hk => hk.2) (.int .i64 ((rd_T46 x191002_1 t194).f2))) (fun _ hk => hk.2) (.int .i64 ((rd_T46 x191002_1 t194).f3))) (fun _ h_ => h_.1))) (by decide)) hk (fun _ h => h.2)) (fun _ h => h.1)); replace BK171 := kbT hk BK171 NB171_0; replace BK172 := kbT hk BK172 NB172_0; replace BK182 := kbT hk BK182 NB182_0; replace BK190 := kbT hk BK190 NB190_0; replace BK218 := aM (KeepBut.blk hk (g' := gb218) (o := .cells #[.int .i64 ((rd_T46 x191002_1 t194).f0), .bool ((rd_T46 x191002_1 t194).f1), .int .i64 ((rd_T46 x191002_1 t194).f2), .int .i64 ((rd_T46 x191002_1 t194).f3)] 46 (0, 0)) (by (with_reducible repeat (first | apply bN | apply bD | apply bA)); refine bP (cs := #[.int .i64 ((rd_T46 x191002_1 t194).f0), .bool ((rd_T46 x191002_1 t194).f1), .int .i64 ((rd_T46 x191002_1 t194).f2), .int .i64 0]) ?_ 3 _ rfl; (with_reducible repeat (first | apply bN | apply bD | apply bA)); refine bP (cs := #[.int .i64 ((rd_T46 x191002_1 t194).f0), .bool ((rd_T46 x191002_1 t194).f1), .int .i64 0, .int .i64 0]) ?_ 2 _ rfl; (with_reducible repeat (first | apply bN | apply bD | apply bA)); refine bP (cs := #[.int .i64 ((rd_T46 x191002_1 t194).f0), .bool false, .int .i64 0, .int .i64 0]) ?_ 1 _ rfl; (with_reducible repeat (first | apply bN | apply bD | apply bA)); refine bP (cs := #[.int .i64 0, .bool false, .int .i64 0, .int .i64 0]) ?_ 0 _ rfl; (with_reducible repeat (first | apply bN | apply bD | apply bA)); exact BK218.o) NB218_0.o (by simp)); replace HK := hkT HK hk; replace HB := aM (hb); replace HI0 := aM (hi); (try clear hb); obtain ⟨z110_0, z110_1, z110_2, z110_3, f110_0, f110_1, f110_2, f110_3⟩ := bq4 BK218; obtain ⟨z111_0, z111_1, z111_2, f111_0, f111_1, f111_2⟩ := bq3 BK190) | ((with_reducible refine gC (f := 24) rfl ?_); refine goesL_ (some 64) rfl rfl Try.func24 (by kernel_rfl) rfl #[.agg #[.int .i64 t183, .slice Ao22 t184.length co22, .slice (some ad217) x191002_1.length co98], .int .i64 ((rd_T46 x191002_1 t194).f0), .bool ((rd_T46 x191002_1 t194).f1), .int .i64 t219] rfl zG ?_; (with_reducible refine (spec_MoveOf.calls kj24 t183 _ _ t184 _ _ x191002_1 ((rd_T46 x191002_1 t194).f0) ((rd_T46 x191002_1 t194).f1) t219 t222 _ ?s1 ?s2 ?s3 ?s4 A65.o).mono ?_); (case s1 => refine (rQ (e := 4) (base := w.heap.size) (ok := fun k_ => some k_ ≠ (.slice Ao13 t174.length co13 : Value).ownBlock) (n := t184.length) (c := co22) ?_).2.2; exact ((rM (rB HO_191001 BK218) (fun _ h_ => h_.1)))); (case s2 => exact (rQ HO_191001.o).2.1); (case s3 => refine (rQ (e := 46) (base := w.heap.size) (ok := fun k_ => (some k_ ≠ (u183002 : Value).ownBlock ∧ k_ ≠ gb218)) (n := x191002_1.length) (c := co98) ?_).2.2; exact (by (with_reducible repeat (first | apply rA | apply rN | apply rD)); exact (rM (Kd.R_far (p := ⟨gb218, 2, none⟩) (rM HO_191002.o (fun k_ hk => (⟨hk, hk.2⟩ : _ ∧ k_ ≠ gb218))) (fun _ hk => hk.2) (.int .i64 t219)) (fun _ h_ => h_.1)))); (case s4 => exact (rQ HO_191002.o).2.1); rintro e w112 ⟨rfl, hb⟩; refine ⟨_, rfl, ?_⟩; replace HO_183001 := aM (rW ((rM (rB HO_183001 BK218) (fun _ h_ => h_.1))) hb); replace HO_183002 := aM (rW (by (with_reducible repeat (first | apply rA | apply rN | apply rD)); exact (rM (Kd.R_far (p := ⟨gb218, 2, none⟩) (rM HO_183002.o (fun k_ hk => (⟨hk, hk.2⟩ : _ ∧ k_ ≠ gb218))) (fun _ hk => hk.2) (.int .i64 t219)) (fun _ h_ => h_.1))) hb); replace HO_191001 := aM (rW ((rM (rB HO_191001 BK218) (fun _ h_ => h_.1))) hb); replace HO_191002 := aM (rW (by (with_reducible repeat (first | apply rA | apply rN | apply rD)); exact (rM (Kd.R_far (p := ⟨gb218, 2, none⟩) (rM HO_191002.o (fun k_ hk => (⟨hk, hk.2⟩ : _ ∧ k_ ≠ gb218))) (fun _ hk => hk.2) (.int .i64 t219)) (fun _ h_ => h_.1))) hb); replace BK171 := aM (blk_below (kF BK171) hb); replace BK172 := aM (blk_below (kF BK172) hb); replace BK182 := aM (blk_below (kF BK182) hb); replace BK190 := aM (blk_below (kF BK190) hb); replace BK218 := aM (blk_below (g := gb218) (o := .cells #[.int .i64 ((rd_T46 x191002_1 t194).f0), .bool ((rd_T46 x191002_1 t194).f1), .int .i64 t219, .int .i64 ((rd_T46 x191002_1 t194).f3)] 46 (0, 0)) (by (with_reducible repeat (first | apply bN | apply bD | apply bA)); refine bP (cs := #[.int .i64 ((rd_T46 x191002_1 t194).f0), .bool ((rd_T46 x191002_1 t194).f1), .int .i64 ((rd_T46 x191002_1 t194).f2), .int .i64 ((rd_T46 x191002_1 t194).f3)]) ?_ 2 _ rfl; (with_reducible repeat (first | apply bN | apply bD | apply bA)); exact BK218.o) hb); replace HK := hkB HK hb; replace HB := bS HB hb; replace HI0 := aM (IsS69.below (show IsS69 w0 (w109.setCell ⟨gb218, 2, none⟩ (.int .i64 t219)) g s0_0 t220 t221 from spec_l14Pair.zI69 HI0) hb); (try clear hb)))
         go_roundg kj24
         case measure => have := HK1.o; have := HJ24.o; omega
         case rel => exact ⟨(wrap64 (x6_1 - 1)), (t220), (t221), (x183002_1), (x191002_1), (u183002), (.slice (some ad217) x191002_1.length co98), zF, H', ⟨by have := HK1.o; have := HJ24.o; omega⟩, ⟨zR HO_183001⟩, ⟨by (with_reducible repeat (first | apply rA | apply rN | apply rD)); exact rM HO_183002.o (fun _ hk => hk.1)⟩, ⟨zR HO_191001⟩, ⟨by (with_reducible repeat (first | apply rA | apply rN | apply rD)); exact rM HO_191002.o (fun _ hk => hk.1)⟩, ⟨zK BK171⟩, ⟨zK BK172⟩, ⟨zK BK182⟩, ⟨zK BK190⟩, ⟨spec_l14Pair.zI69 HI0⟩, ⟨zH HK⟩, ⟨zB HB⟩⟩
       ·rw [if_neg c61] at H
        have c61b0 : (t197 == 1) = false := beq_eq_false_iff_ne.mpr c61
        have c61b1 : (t197 != 1) = true := bne_iff_ne.mpr c61
        by_cases c113 : t197 = 2
        ·rw [if_pos c113] at H
         have c113b0 : (t197 == 2) = true := beq_iff_eq.mpr c113
         have c113b1 : (t197 != 2) = false := bne_eq_false_iff_eq.mpr c113
         clear c113
         replace H := oB.mp H
         obtain ⟨⟨t226, t227, t228⟩, A1140, H⟩ := H
         dsimp only at H
         have A114 := aM A1140
         clear A1140
         obtain ⟨c115, H⟩ := ifS H
         have c115b0 : decide (0 ≤ t194) = true := dT c115
         clear c115
         obtain ⟨c116, H⟩ := ifS H
         have c116b0 : decide (t194 < (x191002_1.length : Int)) = true := dT c116
         clear c116
         obtain ⟨y229, hy229⟩ : ∃ y_ : List (S46), y_ = (x191002_1.set (t194 : Int).toNat (⟨(rd_T46 x191002_1 t194).f0, (rd_T46 x191002_1 t194).f1, (rd_T46 x191002_1 t194).f2, t226⟩ : S46)) := ⟨_, rfl⟩
         replace H : (spec_l14Pair.l0 kj24 (wrap64 (x6_1 - 1)) s0_0 t227 t228 t173 t174 x183002_1 t183 t184 y229) = some (r1, r2, r3, r4, r5, r6, r7, r8) := by first | (rw [hy229]; with_reducible exact H) | (rw [hy229]; exact H) | exact H
         have Ny229 := aM hy229
         clear hy229
         have H' := aM H
         clear H
         have hnb118 := NB190_171.o
         have hnc118 := NB171_190.o
         have hnb119 := NB190_172.o
         have hnc119 := NB172_190.o
         have hnb120 := NB190_182.o
         have hnc120 := NB182_190.o
         have hnb121 := NB190_0.o
         have hnc121 := NB0_190.o
         obtain ⟨z122_0, z122_1, z122_2, f122_0, f122_1, f122_2⟩ := bq3 BK190
         obtain ⟨Ao123, co123, eo123⟩ := rL HO_191002.o
         subst eo123
         try go_wp2_with (first | ((with_reducible refine gC (f := 33) rfl ?_); refine goesL_ (some 29) rfl rfl Try.func33 (by kernel_rfl) rfl #[.pointer (some ⟨g, 0, none⟩), .int .i64 (x191002_1.length : Int)] rfl zG ?_; (with_reducible refine (spec_l1Below.calls g s0_0 x1001_1 x1002_1 (x191002_1.length : Int) t194 t195 t196 w0 _ ?s1 ?s2 A34.o).mono ?_); (case s1 => exact spec_l14Pair.zI69 HI0); (case s2 => exact zB HB); rintro e w124 ⟨rfl, hi, hb, hk⟩; refine ⟨_, rfl, ?_⟩; replace HO_183001 := IsS69.kR HI0 HO_183001 hk; replace HO_183002 := IsS69.kR HI0 HO_183002 hk; replace HO_191001 := IsS69.kR HI0 HO_191001 hk; replace HO_191002 := IsS69.kR HI0 HO_191002 hk; replace BK171 := kbT hk BK171 NB171_0; replace BK172 := kbT hk BK172 NB172_0; replace BK182 := kbT hk BK182 NB182_0; replace BK190 := kbT hk BK190 NB190_0; replace HK := hkT HK hk; replace HB := aM (hb); replace HI0 := aM (hi); (try clear hb)) | ((with_reducible refine gC (f := 33) rfl ?_); refine goesL_ (some 31) rfl rfl Try.func33 (by kernel_rfl) rfl #[.pointer (some ⟨g, 0, none⟩), .int .i64 4] rfl zG ?_; (with_reducible refine (spec_l1Below.calls g s0_0 t195 t196 4 t197 t198 t199 w0 _ ?s1 ?s2 A35.o).mono ?_); (case s1 => exact spec_l14Pair.zI69 HI0); (case s2 => exact zB HB); rintro e w125 ⟨rfl, hi, hb, hk⟩; refine ⟨_, rfl, ?_⟩; replace HO_183001 := IsS69.kR HI0 HO_183001 hk; replace HO_183002 := IsS69.kR HI0 HO_183002 hk; replace HO_191001 := IsS69.kR HI0 HO_191001 hk; replace HO_191002 := IsS69.kR HI0 HO_191002 hk; replace BK171 := kbT hk BK171 NB171_0; replace BK172 := kbT hk BK172 NB172_0; replace BK182 := kbT hk BK182 NB182_0; replace BK190 := kbT hk BK190 NB190_0; replace HK := hkT HK hk; replace HB := aM (hb); replace HI0 := aM (hi); (try clear hb)))
         replace HO_183001 := aM (rD HO_183001.o)
         replace HO_183002 := aM (rD HO_183002.o)
         replace HO_191001 := aM (rD HO_191001.o)
         replace HO_191002 := aM (rD HO_191002.o)
         replace BK171 := aM (bD BK171.o)
         replace BK172 := aM (bD BK172.o)
         replace BK182 := aM (bD BK182.o)
         replace BK190 := aM (bD BK190.o)
         replace HI0 := aM (IsS69.drew HI0.o)
         replace HK := aM (keep_drew HK.o)
         replace HB := aM (below_drew1 HB.o)
         refine start_ (n := 10) (S := fun w' => w'.cell? ⟨gb190, 0, none⟩ = some (.int .i64 t183) ∧ w'.cell? ⟨gb190, 1, none⟩ = some (.slice Ao22 t184.length co22) ∧ w'.cell? ⟨gb190, 2, none⟩ = some (.slice Ao123 x191002_1.length co123)) (ds := [9]) (bm 10 0) (by kernel_rfl) rfl (bm0 _) ⟨bc0 BK190, bc1 BK190, bc2 BK190⟩ (fun hK4 => ?_); refine with_tabW spec_l14Pair.tab16 spec_l14Pair.bits16 (fun HT_ HW_ => ?_)
         generalize w125.drew = w126 at HO_183001 HO_183002 HO_191001 HO_191002 BK171 BK172 BK182 BK190 HI0 HK HB hK4 ⊢
         refine pW 0 74 10 1 HT_ rfl rfl ?_
         refine pW 2 76 10 5 HT_ rfl rfl ?_
         refine pW 3 77 10 13 HT_ rfl rfl ?_
         refine pW 4 78 10 29 HT_ rfl rfl ?_
         refine tW 1 75 10 31 HT_ HW_ rfl rfl hK4 ?_
         refine tW 5 79 10 63 HT_ HW_ rfl rfl hK4 ?_
         refine one_ (i := 6) (N := some 80) (bm 10 127) rfl rfl (one_of HT_.o (by kernel_rfl)) (by decide) (fun K hK => ?_)
         refine goes_ Try.func33 (by kernel_rfl) rfl #[.pointer (some ⟨g, 0, none⟩), .int .i64 t183] (by rfl) rfl rfl zG ?_
         with_reducible refine (spec_l1Below.calls g s0_0 t198 t199 t183 t226 t227 t228 w0 _ ?s1 ?s2 A114.o).mono ?_
         (case s1 => exact spec_l14Pair.zI69 HI0)
         (case s2 => exact zB HB)
         rintro e w127 ⟨rfl, hi, hb, hk⟩
         refine ⟨_, rfl, ?_⟩
         replace HO_183001 := IsS69.kR HI0 HO_183001 hk
         replace HO_183002 := IsS69.kR HI0 HO_183002 hk
         replace HO_191001 := IsS69.kR HI0 HO_191001 hk
         replace HO_191002 := IsS69.kR HI0 HO_191002 hk
         replace BK171 := kbT hk BK171 NB171_0
         replace BK172 := kbT hk BK172 NB172_0
         replace BK182 := kbT hk BK182 NB182_0
         replace BK190 := kbT hk BK190 NB190_0
         replace HK := hkT HK hk
         replace HB := aM (hb)
         replace HI0 := aM (hi)
         (try clear hb); (try clear hb2); (try clear hk); (try clear hi)
         have p117 : 0 ≤ (t194 : Int) := zD
         have q117 : (t194 : Int) < ((x191002_1.length : Int) : Int) := zD
         obtain ⟨go117, co117, eo117, gb117, gl117, cl117, HG117⟩ := Kd.R_form HO_191002.o (by omega)
         (first | cases eo117 | (injection eo117 with ea_ en_ ec_; (first | subst ea_ | (injection ea_ with ea_; subst ea_)); subst ec_; clear en_))
         have GB117 := aM gb117
         have GG117 := aM HG117
         clear gb117 gl117 HG117
         obtain ⟨ce117, hcl117, hM117, hcc117, hfr117⟩ := Kd.R_elem HO_191002.o z46 (t194 : Int) p117 q117
         obtain rfl := k46_openM hM117
         have hx117_0 : World.cell? _ ⟨go117, (t194 : Int).toNat * 4, none⟩ = some (.int .i64 ((rd_T46 x191002_1 t194).f0)) := hcc117 0 _ rfl
         have hx117_1 : World.cell? _ ⟨go117, (t194 : Int).toNat * 4 + 1, none⟩ = some (.bool ((rd_T46 x191002_1 t194).f1)) := hcc117 1 _ rfl
         have hx117_2 : World.cell? _ ⟨go117, (t194 : Int).toNat * 4 + 2, none⟩ = some (.int .i64 ((rd_T46 x191002_1 t194).f2)) := hcc117 2 _ rfl
         have hx117_3 : World.cell? _ ⟨go117, (t194 : Int).toNat * 4 + 3, none⟩ = some (.int .i64 ((rd_T46 x191002_1 t194).f3)) := hcc117 3 _ rfl
         have hf117_0 : World.frozen? _ ⟨go117, (t194 : Int).toNat * 4, none⟩ = false := hfr117 0
         have hf117_1 : World.frozen? _ ⟨go117, (t194 : Int).toNat * 4 + 1, none⟩ = false := hfr117 1
         have hf117_2 : World.frozen? _ ⟨go117, (t194 : Int).toNat * 4 + 2, none⟩ = false := hfr117 2
         have hf117_3 : World.frozen? _ ⟨go117, (t194 : Int).toNat * 4 + 3, none⟩ = false := hfr117 3
         clear hcl117 hcc117 hfr117 hM117
         replace p117 := eq_true p117
         replace q117 := eq_true q117
         have HN0_go117 := aM (show g ≠ go117 from by have h_ := IsS69.own_ne HI0.o HO_191002.o (by decide); intro e_; exact h_ (by rw [e_]; rfl))
         obtain ⟨ce128, hcl128, hM128, hcc128, hfr128⟩ := Kd.R_elem HO_191002.o z46 (t194 : Int) (zD) (by have h_ : (t194 : Int) < ((x191002_1.length : Int) : Int) := zD; first | exact h_ | (have e_ := (rQ HO_191002.o).1; omega) | simpa using h_)
         obtain rfl := k46_openM hM128
         have HP128 := (Kd.R_seg HO_191002.o (t194 : Int) (zD) (by have h_ : (t194 : Int) < ((x191002_1.length : Int) : Int) := zD; first | exact h_ | (have e_ := (rQ HO_191002.o).1; omega) | simpa using h_) (seg := [.int .i64 t226]) (j := 3) hcl128 hcc128 (show 4 ≤ 4 from by decide) (x' := (⟨(rd_T46 x191002_1 t194).f0, (rd_T46 x191002_1 t194).f1, (rd_T46 x191002_1 t194).f2, t226⟩ : S46)) (k46_mkM _ _ _ (⟨(rd_T46 x191002_1 t194).f0, (rd_T46 x191002_1 t194).f1, (rd_T46 x191002_1 t194).f2, t226⟩ : S46) ) (fun _ hk => hk)).1
         rw [← Ny229.o] at HP128
         have HQ128 := aM HP128
         clear hcl128 hcc128 hfr128 hM128 HP128
         refine hK.out _ _ ⟨bc0 BK190, bc1 BK190, bc2 BK190⟩ (fun hK4 => ?_)
         clear hK K
         refine nU 80 ?_
         refine pW 7 81 10 255 HT_ rfl rfl ?_
         refine pW 8 82 10 511 HT_ rfl rfl ?_
         refine last_ (i := 9) (N := none) (bm 10 1023) rfl rfl (one_of HT_.o (by kernel_rfl)) (by decide) (fun K hK => ?_)
         refine skip_ (w1 := ?_) (by rfl) rfl ?_ ?_
         rotate_left
         ·go_simp
          rfl
         refine hK.out _ _ ?_
         clear hK K
         refine done_ (done_of HT_.o (by kernel_rfl)) ?_
         try clear hK4
         try go_wp2
         go_roundg kj24
         case measure => have := HK1.o; have := HJ24.o; omega
         case rel => exact ⟨(wrap64 (x6_1 - 1)), (t227), (t228), (x183002_1), (y229), (u183002), (.slice (some ⟨go117, 0, none⟩) x191002_1.length co123), zF, H', ⟨by have := HK1.o; have := HJ24.o; omega⟩, ⟨by (with_reducible repeat (first | apply rA | apply rN | apply rD)); exact rM (Kd.R_far (p := ⟨go117, (t194 : Int).toNat * 4 + 3, none⟩) (Kd.R_types HO_183001.o GG117.o (by decide)) (fun _ hk => hk.2) (.int .i64 t226)) (fun _ hk => hk.1)⟩, ⟨by (with_reducible repeat (first | apply rA | apply rN | apply rD)); exact rM (Kd.R_far (p := ⟨go117, (t194 : Int).toNat * 4 + 3, none⟩) (rM HO_183002.o (fun k_ hk => (⟨hk, fun e_ => hk (by rw [e_]; rfl)⟩ : _ ∧ k_ ≠ go117))) (fun _ hk => hk.2) (.int .i64 t226)) (fun _ hk => hk.1)⟩, ⟨by (with_reducible repeat (first | apply rA | apply rN | apply rD)); exact rM (Kd.R_far (p := ⟨go117, (t194 : Int).toNat * 4 + 3, none⟩) (Kd.R_types HO_191001.o GG117.o (by decide)) (fun _ hk => hk.2) (.int .i64 t226)) (fun _ hk => hk.1)⟩, ⟨zR HQ128⟩, ⟨by (with_reducible repeat (first | apply bN | apply bD | apply bA)); refine bF ?_ (by have h_ := Kd.R_ne HO_191002.o BK171.o (by decide); intro e_; exact h_ (by rw [e_]; rfl)) _; (with_reducible repeat (first | apply bN | apply bD | apply bA)); exact BK171.o⟩, ⟨by (with_reducible repeat (first | apply bN | apply bD | apply bA)); refine bF ?_ (by have h_ := Kd.R_ne HO_191002.o BK172.o (by decide); intro e_; exact h_ (by rw [e_]; rfl)) _; (with_reducible repeat (first | apply bN | apply bD | apply bA)); exact BK172.o⟩, ⟨by (with_reducible repeat (first | apply bN | apply bD | apply bA)); refine bF ?_ (by have h_ := Kd.R_ne HO_191002.o BK182.o (by decide); intro e_; exact h_ (by rw [e_]; rfl)) _; (with_reducible repeat (first | apply bN | apply bD | apply bA)); exact BK182.o⟩, ⟨by (with_reducible repeat (first | apply bN | apply bD | apply bA)); refine bF ?_ (by have h_ := Kd.R_ne HO_191002.o BK190.o (by decide); intro e_; exact h_ (by rw [e_]; rfl)) _; (with_reducible repeat (first | apply bN | apply bD | apply bA)); exact BK190.o⟩, ⟨spec_l14Pair.zI69 HI0⟩, ⟨zH HK⟩, ⟨by repeat (first | (with_reducible first | exact HB.o | apply below_alloc | apply pw_below_drewN | apply below_drew1 | refine below_set ?_ (Nat.le_trans HL.o GB117.o) | refine below_set ?_ (IsS69.ge HI0.o) | refine below_set ?_ GE171.o | refine below_set ?_ GE172.o | refine below_set ?_ GE182.o | refine below_set ?_ GE190.o) | exact HB.o)⟩⟩
        ·rw [if_neg c113] at H
         have c113b0 : (t197 == 2) = false := beq_eq_false_iff_ne.mpr c113
         have c113b1 : (t197 != 2) = true := bne_iff_ne.mpr c113
         have H' := aM H
         clear H
         have hnb129 := NB190_171.o
         have hnc129 := NB171_190.o
         have hnb130 := NB190_172.o
         have hnc130 := NB172_190.o
         have hnb131 := NB190_182.o
         have hnc131 := NB182_190.o
         have hnb132 := NB190_0.o
         have hnc132 := NB0_190.o
         obtain ⟨z133_0, z133_1, z133_2, f133_0, f133_1, f133_2⟩ := bq3 BK190
         obtain ⟨Ao134, co134, eo134⟩ := rL HO_191002.o
         subst eo134
         go_wp2_with (first | ((with_reducible refine gC (f := 33) rfl ?_); refine goesL_ (some 29) rfl rfl Try.func33 (by kernel_rfl) rfl #[.pointer (some ⟨g, 0, none⟩), .int .i64 (x191002_1.length : Int)] rfl zG ?_; (with_reducible refine (spec_l1Below.calls g s0_0 x1001_1 x1002_1 (x191002_1.length : Int) t194 t195 t196 w0 _ ?s1 ?s2 A34.o).mono ?_); (case s1 => exact spec_l14Pair.zI69 HI0); (case s2 => exact zB HB); rintro e w135 ⟨rfl, hi, hb, hk⟩; refine ⟨_, rfl, ?_⟩; replace HO_183001 := IsS69.kR HI0 HO_183001 hk; replace HO_183002 := IsS69.kR HI0 HO_183002 hk; replace HO_191001 := IsS69.kR HI0 HO_191001 hk; replace HO_191002 := IsS69.kR HI0 HO_191002 hk; replace BK171 := kbT hk BK171 NB171_0; replace BK172 := kbT hk BK172 NB172_0; replace BK182 := kbT hk BK182 NB182_0; replace BK190 := kbT hk BK190 NB190_0; replace HK := hkT HK hk; replace HB := aM (hb); replace HI0 := aM (hi); (try clear hb)) | ((with_reducible refine gC (f := 33) rfl ?_); refine goesL_ (some 31) rfl rfl Try.func33 (by kernel_rfl) rfl #[.pointer (some ⟨g, 0, none⟩), .int .i64 4] rfl zG ?_; (with_reducible refine (spec_l1Below.calls g s0_0 t195 t196 4 t197 t198 t199 w0 _ ?s1 ?s2 A35.o).mono ?_); (case s1 => exact spec_l14Pair.zI69 HI0); (case s2 => exact zB HB); rintro e w136 ⟨rfl, hi, hb, hk⟩; refine ⟨_, rfl, ?_⟩; replace HO_183001 := IsS69.kR HI0 HO_183001 hk; replace HO_183002 := IsS69.kR HI0 HO_183002 hk; replace HO_191001 := IsS69.kR HI0 HO_191001 hk; replace HO_191002 := IsS69.kR HI0 HO_191002 hk; replace BK171 := kbT hk BK171 NB171_0; replace BK172 := kbT hk BK172 NB172_0; replace BK182 := kbT hk BK182 NB182_0; replace BK190 := kbT hk BK190 NB190_0; replace HK := hkT HK hk; replace HB := aM (hb); replace HI0 := aM (hi); (try clear hb)))
         go_roundg kj24
         case measure => have := HK1.o; have := HJ24.o; omega
         case rel => exact ⟨(wrap64 (x6_1 - 1)), (t198), (t199), (x183002_1), (x191002_1), (u183002), (.slice Ao134 x191002_1.length co134), zF, H', ⟨by have := HK1.o; have := HJ24.o; omega⟩, ⟨zR HO_183001⟩, ⟨zR HO_183002⟩, ⟨zR HO_191001⟩, ⟨zR HO_191002⟩, ⟨zK BK171⟩, ⟨zK BK172⟩, ⟨zK BK182⟩, ⟨zK BK190⟩, ⟨spec_l14Pair.zI69 HI0⟩, ⟨zH HK⟩, ⟨zB HB⟩⟩
     ·replace c33 := Bool.eq_false_iff.mpr c33
      subst c33
      have H1 : (some (t173, t174, x183002_1, t183, t184, x191002_1, x1001_1, x1002_1)) = some (r1, r2, r3, r4, r5, r6, r7, r8) := by rw [if_neg (show ¬ (false = true) by decide)] at H; exact H
      clear H
      have H := H1
      clear H1
      simp only [Option.some.injEq, Prod.mk.injEq] at H
      obtain ⟨rfl, rfl, rfl, rfl, rfl, rfl, rfl, rfl⟩ := H
      try go_wp2
      replace HO_183001 := aM (rD HO_183001.o)
      replace HO_183002 := aM (rD HO_183002.o)
      replace HO_191001 := aM (rD HO_191001.o)
      replace HO_191002 := aM (rD HO_191002.o)
      replace BK171 := aM (bD BK171.o)
      replace BK172 := aM (bD BK172.o)
      replace BK182 := aM (bD BK182.o)
      replace BK190 := aM (bD BK190.o)
      replace HI0 := aM (IsS69.drew HI0.o)
      replace HK := aM (keep_drew HK.o)
      replace HB := aM (below_drew1 HB.o)
      obtain ⟨Ao140, co140, eo140⟩ := rL HO_183002.o
      (first | subst eo140 | (obtain ⟨f4_, f5_⟩ := slI eo140; subst f4_; subst f5_))
      obtain ⟨Ao144, co144, eo144⟩ := rL HO_191002.o
      (first | subst eo144 | (obtain ⟨f4_, f5_⟩ := slI eo144; subst f4_; subst f5_))
      refine start_ (n := 4) (S := fun w' => w'.cell? ⟨gb182, 0, none⟩ = some (.int .i64 t173) ∧ w'.cell? ⟨gb182, 1, none⟩ = some (.slice Ao13 t174.length co13) ∧ w'.cell? ⟨gb182, 2, none⟩ = some (.slice Ao140 x183002_1.length co140) ∧ w'.cell? ⟨gb190, 0, none⟩ = some (.int .i64 t183) ∧ w'.cell? ⟨gb190, 1, none⟩ = some (.slice Ao22 t184.length co22) ∧ w'.cell? ⟨gb190, 2, none⟩ = some (.slice Ao144 x191002_1.length co144)) (ds := []) #[false, false, false, false] (by kernel_rfl) rfl rfl ⟨bc0 BK182, bc1 BK182, bc2 BK182, bc0 BK190, bc1 BK190, bc2 BK190⟩ (fun hK4 => ?_)
      generalize wc.drew = w137 at HO_183001 HO_183002 HO_191001 HO_191002 BK171 BK172 BK182 BK190 HI0 HK HB hK4 ⊢
      refine take_ (i := 0) (N := some 83) (v := ?_) (a' := ?_) #[true, false, false, false] rfl rfl (by kernel_rfl) (fun _ _ _ h => h) (Or.inl ⟨by rfl, ?_⟩) hK4 ?_ ?_
      rotate_left
      ·rintro w' ⟨s0, s1, s2, s3, s4, s5⟩
       go_simp
       with_reducible rfl
      rotate_left
      ·simp only [Act.put, lA, lB, lC, i64_w, i32_w]
       rfl
      refine take_ (i := 1) (N := some 84) (v := ?_) (a' := ?_) #[true, true, false, false] rfl rfl (by kernel_rfl) (fun _ _ _ h => h) (Or.inl ⟨by rfl, ?_⟩) hK4 ?_ ?_
      rotate_left
      ·rintro w' ⟨s0, s1, s2, s3, s4, s5⟩
       go_simp
       with_reducible rfl
      rotate_left
      ·simp only [Act.put, lA, lB, lC, i64_w, i32_w]
       rfl
      refine one_ (i := 2) (N := none) #[true, true, true, false] rfl rfl (by kernel_rfl) (by decide) (fun K hK => ?_)
      have hs138 : w137.cell? ⟨gb171, 0, none⟩ = some (.int .i64 0) := bc0 BK171
      have hfs138 := bf BK171 0
      have hns138_1 := NB172_171.o
      have hns138_2 := NB182_171.o
      have hns138_3 := NB190_171.o
      have hms138_1 := NB171_172.o
      have hms138_2 := NB171_182.o
      have hms138_3 := NB171_190.o
      have hs139 : w137.cell? ⟨gb171, 1, none⟩ = some (.slice none 0 0) := bc1 BK171
      have hfs139 := bf BK171 1
      have hns139_1 := NB172_171.o
      have hns139_2 := NB182_171.o
      have hns139_3 := NB190_171.o
      have hms139_1 := NB171_172.o
      have hms139_2 := NB171_182.o
      have hms139_3 := NB171_190.o
      have hs141 : w137.cell? ⟨gb171, 2, none⟩ = some (.slice none 0 0) := bc2 BK171
      have hfs141 := bf BK171 2
      have hns141_1 := NB172_171.o
      have hns141_2 := NB182_171.o
      have hns141_3 := NB190_171.o
      have hms141_1 := NB171_172.o
      have hms141_2 := NB171_182.o
      have hms141_3 := NB171_190.o
      refine skip_ (w1 := ?_) (by rfl) rfl ?_ ?_
      rotate_left
      ·go_simp
       rfl
      refine hK.out _ _ ⟨((cF (p := ⟨gb171, _, none⟩) NB182_171.o _).trans (((cF (p := ⟨gb171, _, none⟩) NB182_171.o _).trans (((cF (p := ⟨gb171, _, none⟩) NB182_171.o _).trans (hK4.1)))))), ((cF (p := ⟨gb171, _, none⟩) NB182_171.o _).trans (((cF (p := ⟨gb171, _, none⟩) NB182_171.o _).trans (((cF (p := ⟨gb171, _, none⟩) NB182_171.o _).trans (hK4.2.1)))))), ((cF (p := ⟨gb171, _, none⟩) NB182_171.o _).trans (((cF (p := ⟨gb171, _, none⟩) NB182_171.o _).trans (((cF (p := ⟨gb171, _, none⟩) NB182_171.o _).trans (hK4.2.2.1)))))), ((cF (p := ⟨gb171, _, none⟩) NB190_171.o _).trans (((cF (p := ⟨gb171, _, none⟩) NB190_171.o _).trans (((cF (p := ⟨gb171, _, none⟩) NB190_171.o _).trans (hK4.2.2.2.1)))))), ((cF (p := ⟨gb171, _, none⟩) NB190_171.o _).trans (((cF (p := ⟨gb171, _, none⟩) NB190_171.o _).trans (((cF (p := ⟨gb171, _, none⟩) NB190_171.o _).trans (hK4.2.2.2.2.1)))))), ((cF (p := ⟨gb171, _, none⟩) NB190_171.o _).trans (((cF (p := ⟨gb171, _, none⟩) NB190_171.o _).trans (((cF (p := ⟨gb171, _, none⟩) NB190_171.o _).trans (hK4.2.2.2.2.2))))))⟩ (fun hK4 => ?_)
      clear hK K
      refine one_ (i := 3) (N := none) #[true, true, true, true] rfl rfl (by kernel_rfl) (by decide) (fun K hK => ?_)
      have hs142 : w137.cell? ⟨gb172, 0, none⟩ = some (.int .i64 0) := bc0 BK172
      have hfs142 := bf BK172 0
      have hns142_0 := NB171_172.o
      have hns142_2 := NB182_172.o
      have hns142_3 := NB190_172.o
      have hms142_0 := NB172_171.o
      have hms142_2 := NB172_182.o
      have hms142_3 := NB172_190.o
      have hs143 : w137.cell? ⟨gb172, 1, none⟩ = some (.slice none 0 0) := bc1 BK172
      have hfs143 := bf BK172 1
      have hns143_0 := NB171_172.o
      have hns143_2 := NB182_172.o
      have hns143_3 := NB190_172.o
      have hms143_0 := NB172_171.o
      have hms143_2 := NB172_182.o
      have hms143_3 := NB172_190.o
      have hs145 : w137.cell? ⟨gb172, 2, none⟩ = some (.slice none 0 0) := bc2 BK172
      have hfs145 := bf BK172 2
      have hns145_0 := NB171_172.o
      have hns145_2 := NB182_172.o
      have hns145_3 := NB190_172.o
      have hms145_0 := NB172_171.o
      have hms145_2 := NB172_182.o
      have hms145_3 := NB172_190.o
      refine skip_ (w1 := ?_) (by rfl) rfl ?_ ?_
      rotate_left
      ·go_simp
       rfl
      refine hK.out _ _ ⟨((cF (p := ⟨gb172, _, none⟩) NB182_172.o _).trans (((cF (p := ⟨gb172, _, none⟩) NB182_172.o _).trans (((cF (p := ⟨gb172, _, none⟩) NB182_172.o _).trans (hK4.1)))))), ((cF (p := ⟨gb172, _, none⟩) NB182_172.o _).trans (((cF (p := ⟨gb172, _, none⟩) NB182_172.o _).trans (((cF (p := ⟨gb172, _, none⟩) NB182_172.o _).trans (hK4.2.1)))))), ((cF (p := ⟨gb172, _, none⟩) NB182_172.o _).trans (((cF (p := ⟨gb172, _, none⟩) NB182_172.o _).trans (((cF (p := ⟨gb172, _, none⟩) NB182_172.o _).trans (hK4.2.2.1)))))), ((cF (p := ⟨gb172, _, none⟩) NB190_172.o _).trans (((cF (p := ⟨gb172, _, none⟩) NB190_172.o _).trans (((cF (p := ⟨gb172, _, none⟩) NB190_172.o _).trans (hK4.2.2.2.1)))))), ((cF (p := ⟨gb172, _, none⟩) NB190_172.o _).trans (((cF (p := ⟨gb172, _, none⟩) NB190_172.o _).trans (((cF (p := ⟨gb172, _, none⟩) NB190_172.o _).trans (hK4.2.2.2.2.1)))))), ((cF (p := ⟨gb172, _, none⟩) NB190_172.o _).trans (((cF (p := ⟨gb172, _, none⟩) NB190_172.o _).trans (((cF (p := ⟨gb172, _, none⟩) NB190_172.o _).trans (hK4.2.2.2.2.2))))))⟩ (fun hK4 => ?_)
      clear hK K
      refine done_ (by kernel_rfl) ?_
      try clear hK4
      try go_wp2
      refine bodyPost_ret (results_cc rfl _ _ gb171 gb172 27 27 #[.int .i64 t173, .slice Ao13 t174.length co13, .slice Ao140 x183002_1.length co140] #[.int .i64 t183, .slice Ao22 t184.length co22, .slice Ao144 x191002_1.length co144] (0, 0) (0, 0) _ _ rfl (by (with_reducible repeat (first | apply bN | apply bD | apply bA)); refine bF ?_ NB171_172.o _; (with_reducible repeat (first | apply bN | apply bD | apply bA)); refine bF ?_ NB171_172.o _; (with_reducible repeat (first | apply bN | apply bD | apply bA)); refine bF ?_ NB171_172.o _; (with_reducible repeat (first | apply bN | apply bD | apply bA)); refine bP (cs := #[.int .i64 t173, .slice Ao13 t174.length co13, .slice none 0 0]) ?_ 2 _ rfl; (with_reducible repeat (first | apply bN | apply bD | apply bA)); refine bP (cs := #[.int .i64 t173, .slice none 0 0, .slice none 0 0]) ?_ 1 _ rfl; (with_reducible repeat (first | apply bN | apply bD | apply bA)); refine bP (cs := #[.int .i64 0, .slice none 0 0, .slice none 0 0]) ?_ 0 _ rfl; (with_reducible repeat (first | apply bN | apply bD | apply bA)); exact BK171.o) Try.underlying27 rfl (by kernel_rfl) rfl (by (with_reducible repeat (first | apply bN | apply bD | apply bA)); refine bP (cs := #[.int .i64 t183, .slice Ao22 t184.length co22, .slice none 0 0]) ?_ 2 _ rfl; (with_reducible repeat (first | apply bN | apply bD | apply bA)); refine bP (cs := #[.int .i64 t183, .slice none 0 0, .slice none 0 0]) ?_ 1 _ rfl; (with_reducible repeat (first | apply bN | apply bD | apply bA)); refine bP (cs := #[.int .i64 0, .slice none 0 0, .slice none 0 0]) ?_ 0 _ rfl; (with_reducible repeat (first | apply bN | apply bD | apply bA)); refine bF ?_ NB172_171.o _; (with_reducible repeat (first | apply bN | apply bD | apply bA)); refine bF ?_ NB172_171.o _; (with_reducible repeat (first | apply bN | apply bD | apply bA)); refine bF ?_ NB172_171.o _; (with_reducible repeat (first | apply bN | apply bD | apply bA)); exact BK172.o) Try.underlying27 rfl (by kernel_rfl)) rfl ?_
      exact ⟨_, _, _, _, zE, rM (rB2 HO_183001 BK171 BK172) (fun _ hk => hk.1.1), rM (rB2 HO_183002 BK171 BK172) (fun _ hk => hk.1.1), rM (rB2 HO_191001 BK171 BK172) (fun _ hk => hk.1.1), rM (rB2 HO_191002 BK171 BK172) (fun _ hk => hk.1.1), spec_l14Pair.zI69 HI0, zB HB, zH HK⟩

/-! ### spec_l1Int: function 63 -/
def spec_l1Int.f (s0_0 : List Int) (s0_1 : Int) (s0_2 : Int) (l1 : List Int) : Option (Int × Int × Int) := (spec_l1Below.f s0_0 s0_1 s0_2 (l1.length : Int)).bind fun bt230 => (if 0 ≤ bt230.1 then (if bt230.1 < (l1.length : Int) then (some (rd l1 bt230.1, bt230.2.1, bt230.2.2)) else (none)) else (none))
set_option maxHeartbeats 8000000 in
set_option maxRecDepth 100000 in
theorem spec_l1Int.calls (g : Nat) (s0_0 : List Int) (s0_1 : Int) (s0_2 : Int) (A1 : Option Addr) (c1 : Nat) (l1 : List Int) (r1 : Int) (r2 : Int) (r3 : Int) (w0 w : World) (hI : IsS69 w0 w g s0_0 s0_1 s0_2) (hB : Below w0.heap.size w0 w) (hr1 : Kd.C (Kd.int .i64) w A1 l1.length l1) (hc1 : l1.length ≤ c1) (hf1 : ∀ ad, A1 = some ad → 0 < l1.length → ad.block ≠ g) (h : spec_l1Int.f s0_0 s0_1 s0_2 l1 = some (r1, r2, r3)) :
  Calls Try.prog 63 #[.pointer (some ⟨g, 0, none⟩), .slice A1 l1.length c1] w fun e w' => e = .returned (.int .i64 r1) ∧ IsS69 w0 w' g s0_0 r2 r3 ∧ Below w0.heap.size w0 w' ∧ KeepBut w w' g none := by
 have HR1 := aM hr1
 have HC1 := aM hc1
 clear hr1 hc1
 have HI0 := aM hI
 have GI0 := aM (IsS69.ge hI)
 have HK := aM (KeepBut.refl w g none)
 have HL := aM hB.size
 clear hI
 have HW0 := aM hB.size
 have HB := aM hB
 clear hB
 have H : ((spec_l1Below.f s0_0 s0_1 s0_2 (l1.length : Int)).bind fun bt230 => (if 0 ≤ bt230.1 then (if bt230.1 < (l1.length : Int) then (some (rd l1 bt230.1, bt230.2.1, bt230.2.2)) else (none)) else (none))) = some (r1, r2, r3) := h
 clear h
 replace H := oB.mp H
 obtain ⟨⟨t230, t231, t232⟩, A30, H⟩ := H
 dsimp only at H
 have A3 := aM A30
 clear A30
 by_cases c4 : 0 ≤ t230
 ·rw [if_pos c4] at H
  have c4b0 : decide (0 ≤ t230) = true := dT c4
  clear c4
  obtain ⟨c5, H⟩ := ifS H
  have c5b0 : decide (t230 < (l1.length : Int)) = true := dT c5
  clear c5
  simp only [Option.some.injEq, Prod.mk.injEq] at H
  obtain ⟨rfl, rfl, rfl⟩ := H
  go_enter Try.func63, Try.ntmps63
  go_wp2_with (first | ((with_reducible refine gC (f := 33) rfl ?_); refine goesL_ (some 9) rfl rfl Try.func33 (by kernel_rfl) rfl #[.pointer (some ⟨g, 0, none⟩), .int .i64 (l1.length : Int)] rfl zG ?_; (with_reducible refine (spec_l1Below.calls g s0_0 s0_1 s0_2 (l1.length : Int) t230 t231 t232 w0 _ ?s1 ?s2 A3.o).mono ?_); (case s1 => repeat (first | (with_reducible first | exact HI0.o | apply IsS69.alloc | apply IsS69.drewN | apply IsS69.drew | apply IsS69.set_1 | apply IsS69.set_2) | exact HI0.o)); (case s2 => exact zB HB); rintro e w6 ⟨rfl, hi, hb, hk⟩; refine ⟨_, rfl, ?_⟩; replace HK := hkT HK hk; replace HB := aM (hb); replace HI0 := aM (hi); (try clear hb); have p233 : 0 ≤ (t230 : Int) := zD; have q233 : t230 < (l1.length : Int) := zD; obtain ⟨ad233, e233, hx233_0⟩ := Kd.at_int HR1.o t230 p233 q233; cases e233; replace hx233_0 := keep_cell HK.o hx233_0 (by first | (rw [add_block]; exact hf1 _ rfl (by omega)) | exact hf1 _ rfl (by omega) | exact hf1 ad233 rfl (by omega)); replace p233 := eq_true p233; replace q233 := eq_true q233))
  go_ret
  exact ⟨zE, by repeat (first | (with_reducible first | exact HI0.o | apply IsS69.alloc | apply IsS69.drewN | apply IsS69.drew | apply IsS69.set_1 | apply IsS69.set_2) | exact HI0.o), zB HB, zH HK⟩
 ·rw [if_neg c4] at H
  exact absurd H (by simp)

end Go.Proofs.Ytfibjclnaeocbaa.PFnPairs
