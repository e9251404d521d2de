-- WRITTEN by pp.py, this session's own wrapper around the print; not trusted: Lean checks it
import Derived.Test.YtjlaogjikkckkaaPFnMachinesx0
import Derived.Test.YtjlaogjikkckkaaPFnMachinesx3
namespace Go.Proofs.Ytjlaogjikkckkaa.PFnMachines
open Go.RowKit Go.Proofs.Ytjlaogjikkckkaa.Hw Go.Proofs.YtjlaogjikkckkaaW.PrintWords Go.Proofs.YtjlaogjikkckkaaW.PrintLast Go.Proofs.YtjlaogjikkckkaaW.PrintMore
attribute [local go_sem] max2_int min2_int max_two min_two max_three min_three max_four min_four   -- for this text's walks alone
set_option linter.unusedVariables false
set_option linter.unusedSimpArgs false
set_option linter.unusedSectionVars false

/-! ### spec_l13Draw: function 55 -/
mutual
def spec_l13Draw.l0 : Nat → Int → List Int → Int → Int → Int → List Bool → List (S54) → Option (Int × List Bool × (List (S54)) × Int × Int)
 | 0, _, _, _, _, _, _, _ => none
 | k + 1, x4, x1000, x1001, x1002, x149000, x149001, x149002 => if x4 < x149000 then ((spec_l1Once.f x1000 x1001 x1002 2).bind fun bt149 => ((spec_l1Below.f x1000 bt149.2.1 bt149.2.2 3).bind fun bt152 => (if x4 = 0 then ((spec_l1Below.f x1000 bt152.2.1 bt152.2.2 2).bind fun bt155 => (spec_l13Draw.j1 k x4 bt149.1 (wrap64 (1 + bt155.1)) x1000 bt155.2.1 bt155.2.2 x149000 x149001 x149002)) else (spec_l13Draw.j1 k x4 bt149.1 bt152.1 x1000 bt152.2.1 bt152.2.2 x149000 x149001 x149002)))) else (some (x149000, x149001, x149002, x1001, x1002))
def spec_l13Draw.j1 : Nat → Int → Bool → Int → List Int → Int → Int → Int → List Bool → List (S54) → Option (Int × List Bool × (List (S54)) × Int × Int)
 | 0, _, _, _, _, _, _, _, _, _ => none
 | k + 1, x4, x5, x6, x1000, x1001, x1002, x149000, x149001, x149002 => spec_l13Draw.l1 k x4 x5 x6 0 x1000 x1001 x1002 x149000 x149001 x149002
def spec_l13Draw.l1 : Nat → Int → Bool → Int → Int → List Int → Int → Int → Int → List Bool → List (S54) → Option (Int × List Bool × (List (S54)) × Int × Int)
 | 0, _, _, _, _, _, _, _, _, _, _ => none
 | k + 1, x4, x5, x6, x7, x1000, x1001, x1002, x149000, x149001, x149002 => if x7 < x6 then ((spec_l1Below.f x1000 x1001 x1002 3).bind fun bt167 => ((spec_l1Below.f x1000 bt167.2.1 bt167.2.2 x149000).bind fun bt170 => ((spec_MoveOf.f k x149000 x149001 x149002 x4 x5 bt167.1).bind fun t174 => (if t174 < 0 then (if x149002.length < 4398046511104 then (spec_l13Draw.l1 k x4 x5 x6 (wrap64 (x7 + 1)) x1000 bt170.2.1 bt170.2.2 x149000 x149001 (x149002 ++ [(⟨x4, x5, bt167.1, bt170.1⟩ : S54)])) else (none)) else (spec_l13Draw.l1 k x4 x5 x6 (wrap64 (x7 + 1)) x1000 bt170.2.1 bt170.2.2 x149000 x149001 x149002))))) else (if x6 = 0 then (if x149001.length < 140737488355328 then (spec_l13Draw.l0 k (wrap64 (x4 + 1)) x1000 x1001 x1002 x149000 (x149001 ++ [true]) x149002) else (none)) else ((spec_l1Once.f x1000 x1001 x1002 4).bind fun bt161 => (if x149001.length < 140737488355328 then (spec_l13Draw.l0 k (wrap64 (x4 + 1)) x1000 bt161.2.1 bt161.2.2 x149000 (x149001 ++ [bt161.1]) x149002) else (none))))
end
def spec_l13Draw.f (k : Nat) (s0_0 : List Int) (s0_1 : Int) (s0_2 : Int) : Option (Int × List Bool × (List (S54)) × Int × Int) := (spec_l1Below.f s0_0 s0_1 s0_2 4).bind fun bt145 => (spec_l13Draw.l0 k 0 s0_0 bt145.2.1 bt145.2.2 (wrap64 (1 + bt145.1)) ([] : List Bool) ([] : List (S54)))
theorem spec_l13Draw.mono_l : ∀ k, (∀ y0 y1 y2 y3 y4 y5 y6, LeO (spec_l13Draw.l0 k y0 y1 y2 y3 y4 y5 y6) (spec_l13Draw.l0 (k + 1) y0 y1 y2 y3 y4 y5 y6)) ∧ (∀ y0 y1 y2 y3 y4 y5 y6 y7 y8, LeO (spec_l13Draw.j1 k y0 y1 y2 y3 y4 y5 y6 y7 y8) (spec_l13Draw.j1 (k + 1) y0 y1 y2 y3 y4 y5 y6 y7 y8)) ∧ (∀ y0 y1 y2 y3 y4 y5 y6 y7 y8 y9, LeO (spec_l13Draw.l1 k y0 y1 y2 y3 y4 y5 y6 y7 y8 y9) (spec_l13Draw.l1 (k + 1) y0 y1 y2 y3 y4 y5 y6 y7 y8 y9))
 | 0 => ⟨fun _ _ _ _ _ _ _ r h => by simp [spec_l13Draw.l0] at h, fun _ _ _ _ _ _ _ _ _ r h => by simp [spec_l13Draw.j1] at h, fun _ _ _ _ _ _ _ _ _ _ r h => by simp [spec_l13Draw.l1] at h⟩
 | k + 1 => by
  obtain ⟨ih0, ih1, ih2⟩ := spec_l13Draw.mono_l k
  refine ⟨?_, ?_, ?_⟩
  ·intro y0 y1 y2 y3 y4 y5 y6
   unfold spec_l13Draw.l0
   repeat' first
   | (with_reducible exact ih0 _ _ _ _ _ _ _)
   | (with_reducible exact ih1 _ _ _ _ _ _ _ _ _)
   | (with_reducible exact ih2 _ _ _ _ _ _ _ _ _ _)
   | (with_reducible exact spec_MoveOf.mono _ _ _ _ _ _ _)
   | (with_reducible exact LeO.refl _)
   | (with_reducible exact LeO.none _)
   | (with_reducible refine LeO.ite ?_ ?_)
   | (with_reducible refine LeO.bind ?_ (fun _ => ?_))
   | exact ih0 _ _ _ _ _ _ _
   | exact ih1 _ _ _ _ _ _ _ _ _
   | exact ih2 _ _ _ _ _ _ _ _ _ _
   | exact spec_MoveOf.mono _ _ _ _ _ _ _
   | exact LeO.none _
   | refine LeO.ite ?_ ?_
   | refine LeO.bind ?_ (fun _ => ?_)
  ·intro y0 y1 y2 y3 y4 y5 y6 y7 y8
   unfold spec_l13Draw.j1
   repeat' first
   | (with_reducible exact ih0 _ _ _ _ _ _ _)
   | (with_reducible exact ih1 _ _ _ _ _ _ _ _ _)
   | (with_reducible exact ih2 _ _ _ _ _ _ _ _ _ _)
   | (with_reducible exact spec_MoveOf.mono _ _ _ _ _ _ _)
   | (with_reducible exact LeO.refl _)
   | (with_reducible exact LeO.none _)
   | (with_reducible refine LeO.ite ?_ ?_)
   | (with_reducible refine LeO.bind ?_ (fun _ => ?_))
   | exact ih0 _ _ _ _ _ _ _
   | exact ih1 _ _ _ _ _ _ _ _ _
   | exact ih2 _ _ _ _ _ _ _ _ _ _
   | exact spec_MoveOf.mono _ _ _ _ _ _ _
   | exact LeO.none _
   | refine LeO.ite ?_ ?_
   | refine LeO.bind ?_ (fun _ => ?_)
  ·intro y0 y1 y2 y3 y4 y5 y6 y7 y8 y9
   unfold spec_l13Draw.l1
   repeat' first
   | (with_reducible exact ih0 _ _ _ _ _ _ _)
   | (with_reducible exact ih1 _ _ _ _ _ _ _ _ _)
   | (with_reducible exact ih2 _ _ _ _ _ _ _ _ _ _)
   | (with_reducible exact spec_MoveOf.mono _ _ _ _ _ _ _)
   | (with_reducible exact LeO.refl _)
   | (with_reducible exact LeO.none _)
   | (with_reducible refine LeO.ite ?_ ?_)
   | (with_reducible refine LeO.bind ?_ (fun _ => ?_))
   | exact ih0 _ _ _ _ _ _ _
   | exact ih1 _ _ _ _ _ _ _ _ _
   | exact ih2 _ _ _ _ _ _ _ _ _ _
   | exact spec_MoveOf.mono _ _ _ _ _ _ _
   | exact LeO.none _
   | refine LeO.ite ?_ ?_
   | refine LeO.bind ?_ (fun _ => ?_)
theorem spec_l13Draw.mono : ∀ a0 a1 a2 k, LeO (spec_l13Draw.f k a0 a1 a2) (spec_l13Draw.f (k + 1) a0 a1 a2) := by
 intro a0 a1 a2 k
 obtain ⟨ih0, ih1, ih2⟩ := spec_l13Draw.mono_l k
 unfold spec_l13Draw.f
 repeat' first
   | (with_reducible exact ih0 _ _ _ _ _ _ _)
   | (with_reducible exact ih1 _ _ _ _ _ _ _ _ _)
   | (with_reducible exact ih2 _ _ _ _ _ _ _ _ _ _)
   | (with_reducible exact spec_MoveOf.mono _ _ _ _ _ _ _)
   | (with_reducible exact LeO.refl _)
   | (with_reducible exact LeO.none _)
   | (with_reducible refine LeO.ite ?_ ?_)
   | (with_reducible refine LeO.bind ?_ (fun _ => ?_))
   | exact ih0 _ _ _ _ _ _ _
   | exact ih1 _ _ _ _ _ _ _ _ _
   | exact ih2 _ _ _ _ _ _ _ _ _ _
   | exact spec_MoveOf.mono _ _ _ _ _ _ _
   | exact LeO.none _
   | refine LeO.ite ?_ ?_
   | refine LeO.bind ?_ (fun _ => ?_)
def spec_l13Draw.T12 : Bool × List (List Nat × List Nat) := (true, [([], []), ([], []), ([], []), ([2], [2]), ([], []), ([], []), ([5], [5]), ([4, 6, 3], [4, 6]), ([0, 1, 3, 7], [0, 1, 3, 7]), ([], []), ([9, 8, 7, 0, 1, 2, 3, 4, 5, 6, 7, 8, 9], [8, 9])])
def spec_l13Draw.B12 : List Nat := [0, 0, 0, 4, 0, 0, 32, 124, 255, 0, 1023]
theorem spec_l13Draw.tab12 : rtab .any (opsOf Try.f55 12) = spec_l13Draw.T12 := by kernel_rfl
theorem spec_l13Draw.bits12 : waitsOk spec_l13Draw.T12.2 spec_l13Draw.B12 = true := by kernel_rfl
def spec_l13Draw.T15 : Bool × List (List Nat × List Nat) := (true, [([], []), ([0], [0]), ([], []), ([2], [2]), ([3], [3]), ([4], [4]), ([5, 4, 4], [4, 5]), ([4, 6], [4, 6]), ([7], [7]), ([1, 8, 6], [1, 8]), ([0, 1, 2, 3, 4, 5, 6, 7, 8, 9], []), ([10, 9, 9, 0, 1, 2, 3, 4, 5, 6, 7, 8, 9], [9, 10])])
def spec_l13Draw.B15 : List Nat := [0, 1, 0, 4, 12, 28, 60, 124, 252, 511, 1023, 2047]
theorem spec_l13Draw.tab15 : rtab .any (opsOf Try.f55 15) = spec_l13Draw.T15 := by kernel_rfl
theorem spec_l13Draw.bits15 : waitsOk spec_l13Draw.T15.2 spec_l13Draw.B15 = true := by kernel_rfl
set_option maxHeartbeats 8000000 in
set_option maxRecDepth 100000 in
theorem spec_l13Draw.calls (k : Nat) (g : Nat) (s0_0 : List Int) (s0_1 : Int) (s0_2 : Int) (r1 : Int) (r2 : List Bool) (r3 : List (S54)) (r4 : Int) (r5 : Int) (w0 w : World) (hI : IsS77 w0 w g s0_0 s0_1 s0_2) (hB : Below w0.heap.size w0 w) (h : spec_l13Draw.f k s0_0 s0_1 s0_2 = some (r1, r2, r3, r4, r5)) :
  Calls Try.prog 55 #[.pointer (some ⟨g, 0, none⟩)] w fun e w' => ∃ v1_ v2_ : Value, e = .returned (.agg #[.int .i64 r1, v1_, v2_]) ∧ Kd.R Kd.bool 4 w' w.heap.size (fun _ => True) v1_ r2 ∧ Kd.R k54 54 w' w.heap.size (fun _ => True) v2_ r3 ∧ IsS77 w0 w' g s0_0 r4 r5 ∧ Below w0.heap.size w0 w' ∧ KeepBut w w' g none := by
 have hu29 := Try.underlying29
 have hu54 := Try.underlying54
 have HI0 := Aside0.mk hI
 have HK := Aside0.mk (KeepBut.refl w g none)
 have HL := Aside0.mk hB.size
 clear hI
 have HW0 := Aside0.mk hB.size
 have HB := Aside0.mk hB
 clear hB
 have H : ((spec_l1Below.f s0_0 s0_1 s0_2 4).bind fun bt145 => (spec_l13Draw.l0 k 0 s0_0 bt145.2.1 bt145.2.2 (wrap64 (1 + bt145.1)) ([] : List Bool) ([] : List (S54)))) = some (r1, r2, r3, r4, r5) := h
 clear h
 replace H := Option.bind_eq_some_iff.mp H
 obtain ⟨⟨t145, t146, t147⟩, A20, H⟩ := H
 replace H : (spec_l13Draw.l0 k 0 s0_0 t146 t147 (wrap64 (1 + t145)) ([] : List Bool) ([] : List (S54))) = some (r1, r2, r3, r4, r5) := H
 have A2 := Aside0.mk A20
 clear A20
 have H' := Aside0.mk H
 clear H
 go_enter Try.func55, Try.ntmps55
 go_wp2_with (first | ((with_reducible refine gate_dst (N := 2) rfl ?_); refine box_event ?hg (N := 2) ?hd (cs := #[.int .i64 0, .slice none 0 0, .slice none 0 0]) (t := 29) ?hr ?_; (case hd => rfl); (case hg => rfl); (case hr => first | (go_simp; done) | (go_simp; rfl)); intro gb144 hg w3 hbox hb; have n0_ := Aside0.mk (IsS77.below (by repeat (first | (with_reducible first | exact HI0.out | apply IsS77.alloc | apply IsS77.drewN | apply IsS77.drew | apply IsS77.set_1 | apply IsS77.set_2) | exact HI0.out)) hb); have n1_ := Aside0.mk (KeepBut.trans (by repeat (first | (with_reducible first | exact HK.out | apply KeepBut.set_ | apply keep_drewN | apply keep_drew | apply keep_alloc) | exact HK.out)) (KeepBut.of_below hb g none) (.inl rfl)); have n2_ := Aside0.mk (below_step (by repeat (first | (with_reducible first | exact HB.out | apply below_alloc | apply pw_below_drewN | apply below_drew1 | refine below_set ?_ (IsS77.ge HI0.out)) | exact HB.out)) hb); have n3_ := Aside0.mk (hbox); have n4_ := Aside0.mk ((by rw [hg]; exact (keep_size (w := w) (g := g) (row := none) (by repeat (first | (with_reducible first | exact HK.out | apply KeepBut.set_ | apply keep_drewN | apply keep_drew | apply keep_alloc) | exact HK.out))) : w.heap.size ≤ gb144)); have n5_ := Aside0.mk ((Nat.le_trans HW0.out (by rw [hg]; exact (keep_size (w := w) (g := g) (row := none) (by repeat (first | (with_reducible first | exact HK.out | apply KeepBut.set_ | apply keep_drewN | apply keep_drew | apply keep_alloc) | exact HK.out))) : w.heap.size ≤ gb144) : w0.heap.size ≤ gb144)); have n6_ := Aside0.mk ((by rw [hg]; exact Nat.ne_of_lt (IsS77.lt (show IsS77 w0 _ g s0_0 s0_1 s0_2 from by repeat (first | (with_reducible first | exact HI0.out | apply IsS77.alloc | apply IsS77.drewN | apply IsS77.drew | apply IsS77.set_1 | apply IsS77.set_2) | exact HI0.out))) : g ≠ gb144)); have n7_ := Aside0.mk ((by rw [hg]; exact Nat.ne_of_gt (IsS77.lt (show IsS77 w0 _ g s0_0 s0_1 s0_2 from by repeat (first | (with_reducible first | exact HI0.out | apply IsS77.alloc | apply IsS77.drewN | apply IsS77.drew | apply IsS77.set_1 | apply IsS77.set_2) | exact HI0.out))) : gb144 ≠ g)); clear HI0; clear HK; clear HB; have HI0 := n0_; have HK := n1_; have HB := n2_; have BK144 := n3_; have GW144 := n4_; have GE144 := n5_; have NB0_144 := n6_; have NB144_0 := n7_; clear n0_ n1_ n2_ n3_ n4_ n5_ n6_ n7_; clear hb hbox hg) | ((with_reducible refine gate_callee (f := 38) rfl ?_); refine goesL_ (some 10) rfl rfl Try.func38 (by kernel_rfl) rfl #[.pointer (some ⟨g, 0, none⟩), .int .i64 4] rfl zG ?_; (with_reducible refine (spec_l1Below.calls g s0_0 s0_1 s0_2 4 t145 t146 t147 w0 _ ?side1 ?side2 A2.out).mono ?_); (case side1 => repeat (first | (with_reducible first | exact HI0.out | apply IsS77.alloc | apply IsS77.drewN | apply IsS77.drew | apply IsS77.set_1 | apply IsS77.set_2 | refine IsS77.far ?_ NB0_144.out _) | exact HI0.out)); (case side2 => repeat (first | (with_reducible first | exact HB.out | apply below_alloc | apply pw_below_drewN | apply below_drew1 | refine below_set ?_ (IsS77.ge HI0.out) | refine below_set ?_ GE144.out) | exact HB.out)); rintro e w4 ⟨rfl, hi, hb, hk⟩; refine ⟨_, rfl, ?_⟩; have n0_ := Aside0.mk (KeepBut.blk hk (g' := gb144) (o := .cells #[.int .i64 0, .slice none 0 0, .slice none 0 0] 29 (0, 0)) (zK BK144) NB144_0.out (by simp)); have n1_ := Aside0.mk (KeepBut.trans (by repeat (first | (with_reducible first | exact HK.out | apply KeepBut.set_ | apply keep_drewN | apply keep_drew | apply keep_alloc | refine keep_far ?_ GW144.out _) | exact HK.out)) hk (.inl rfl)); have n2_ := Aside0.mk (hb); have n3_ := Aside0.mk (hi); clear BK144; clear HK; clear HB; clear HI0; have BK144 := n0_; have HK := n1_; have HB := n2_; have HI0 := n3_; clear n0_ n1_ n2_ n3_; (try clear hb)) | ((with_reducible refine gate_dst (N := 3) rfl ?_); refine box_event ?hg (N := 3) ?hd (cs := #[.int .i64 0, .slice none 0 0, .slice none 0 0]) (t := 29) ?hr ?_; (case hd => rfl); (case hg => rfl); (case hr => first | (go_simp; done) | (go_simp; rfl)); intro gb148 hg w5 hbox hb; have n0_ := Aside0.mk (IsS77.below (by repeat (first | (with_reducible first | exact HI0.out | apply IsS77.alloc | apply IsS77.drewN | apply IsS77.drew | apply IsS77.set_1 | apply IsS77.set_2 | refine IsS77.far ?_ NB0_144.out _) | exact HI0.out)) hb); have n1_ := kB BK144 hb; have n2_ := Aside0.mk (KeepBut.trans (by repeat (first | (with_reducible first | exact HK.out | apply KeepBut.set_ | apply keep_drewN | apply keep_drew | apply keep_alloc | refine keep_far ?_ GW144.out _) | exact HK.out)) (KeepBut.of_below hb g none) (.inl rfl)); have n3_ := Aside0.mk (below_step (by repeat (first | (with_reducible first | exact HB.out | apply below_alloc | apply pw_below_drewN | apply below_drew1 | refine below_set ?_ (IsS77.ge HI0.out) | refine below_set ?_ GE144.out) | exact HB.out)) hb); have n4_ := Aside0.mk (hbox); have n5_ := Aside0.mk ((by rw [hg]; exact (keep_size (w := w) (g := g) (row := none) (by repeat (first | (with_reducible first | exact HK.out | apply KeepBut.set_ | apply keep_drewN | apply keep_drew | apply keep_alloc | refine keep_far ?_ GW144.out _) | exact HK.out))) : w.heap.size ≤ gb148)); have n6_ := Aside0.mk ((Nat.le_trans HW0.out (by rw [hg]; exact (keep_size (w := w) (g := g) (row := none) (by repeat (first | (with_reducible first | exact HK.out | apply KeepBut.set_ | apply keep_drewN | apply keep_drew | apply keep_alloc | refine keep_far ?_ GW144.out _) | exact HK.out))) : w.heap.size ≤ gb148) : w0.heap.size ≤ gb148)); have n7_ := Aside0.mk ((by rw [hg]; exact Nat.ne_of_lt (blk_lt (g := gb144) (o := .cells #[.int .i64 0, .slice none 0 0, .slice none 0 0] 29 (0, 0)) (zK BK144)) : gb144 ≠ gb148)); have n8_ := Aside0.mk ((by rw [hg]; exact Nat.ne_of_gt (blk_lt (g := gb144) (o := .cells #[.int .i64 0, .slice none 0 0, .slice none 0 0] 29 (0, 0)) (zK BK144)) : gb148 ≠ gb144)); have n9_ := Aside0.mk ((by rw [hg]; exact Nat.ne_of_lt (IsS77.lt (show IsS77 w0 _ g s0_0 t146 t147 from by repeat (first | (with_reducible first | exact HI0.out | apply IsS77.alloc | apply IsS77.drewN | apply IsS77.drew | apply IsS77.set_1 | apply IsS77.set_2 | refine IsS77.far ?_ NB0_144.out _) | exact HI0.out))) : g ≠ gb148)); have n10_ := Aside0.mk ((by rw [hg]; exact Nat.ne_of_gt (IsS77.lt (show IsS77 w0 _ g s0_0 t146 t147 from by repeat (first | (with_reducible first | exact HI0.out | apply IsS77.alloc | apply IsS77.drewN | apply IsS77.drew | apply IsS77.set_1 | apply IsS77.set_2 | refine IsS77.far ?_ NB0_144.out _) | exact HI0.out))) : gb148 ≠ g)); clear HI0; clear BK144; clear HK; clear HB; have HI0 := n0_; have BK144 := n1_; have HK := n2_; have HB := n3_; have BK148 := n4_; have GW148 := n5_; have GE148 := n6_; have NB144_148 := n7_; have NB148_144 := n8_; have NB0_148 := n9_; have NB148_0 := n10_; clear n0_ n1_ n2_ n3_ n4_ n5_ n6_ n7_ n8_ n9_ n10_; clear hb hbox hg; have hnb6 := NB148_144.out; have hnc6 := NB144_148.out; have hnb7 := NB148_0.out; have hnc7 := NB0_148.out; have hcz8_0 := bc0 BK148; have hcz8_1 := bc1 BK148; have hcz8_2 := bc2 BK148; have hfz8_0 := bf BK148 0; have hfz8_1 := bf BK148 1; have hfz8_2 := bf BK148 2))
 go_loopg [4] k (fun kq v4 w' => ∃ (x4_1 : Int) (x1001_1 : Int) (x1002_1 : Int) (x149001_1 : List Bool) (x149002_1 : List (S54)) (u149001 : Value) (u149002 : Value), v4 = .int .i64 x4_1 ∧ Aside0 (spec_l13Draw.l0 kq x4_1 s0_0 x1001_1 x1002_1 (wrap64 (1 + t145)) x149001_1 x149002_1 = some (r1, r2, r3, r4, r5)) ∧ Aside0 (kq ≤ k) ∧ Aside0 (Kd.R Kd.bool 4 w' w.heap.size (fun _ => True) u149001 x149001_1) ∧ Aside0 (Kd.R k54 54 w' w.heap.size (fun _ => True) u149002 x149002_1) ∧ Aside0 (w'.heap[gb144]? = some (.cells #[.int .i64 0, (.slice none 0 0), (.slice none 0 0)] 29 (0, 0))) ∧ Aside0 (w'.heap[gb148]? = some (.cells #[.int .i64 (wrap64 (1 + t145)), u149001, u149002] 29 (0, 0))) ∧ Aside0 (IsS77 w0 w' g s0_0 x1001_1 x1002_1) ∧ Aside0 (KeepBut w w' g none) ∧ Aside0 (Below w0.heap.size w0 w'))
 case atStart => exact ⟨(0), (t146), (t147), (([] : List Bool)), (([] : List (S54))), (.slice none 0 0), (.slice none 0 0), zF, H', ⟨Nat.le_refl _⟩, ⟨by first | exact Kd.R_nil _ _ _ _ _ | exact Kd.N_nil _ _ _ _ _ | exact Kd.V_nil _ _ _ _ _ | exact Kd.Q_nil _ _ _ _ _ | exact Kd.S_nil _ _ _ _ _⟩, ⟨by first | exact Kd.R_nil _ _ _ _ _ | exact Kd.N_nil _ _ _ _ _ | exact Kd.V_nil _ _ _ _ _ | exact Kd.Q_nil _ _ _ _ _ | exact Kd.S_nil _ _ _ _ _⟩, ⟨by (with_reducible repeat (first | refine blk_drewN ?_ _ | refine blk_drew ?_ | refine blk_alloc ?_ _)); refine blk_far ?_ NB144_148.out _; (with_reducible repeat (first | refine blk_drewN ?_ _ | refine blk_drew ?_ | refine blk_alloc ?_ _)); refine blk_far ?_ NB144_148.out _; (with_reducible repeat (first | refine blk_drewN ?_ _ | refine blk_drew ?_ | refine blk_alloc ?_ _)); refine blk_far ?_ NB144_148.out _; (with_reducible repeat (first | refine blk_drewN ?_ _ | refine blk_drew ?_ | refine blk_alloc ?_ _)); exact BK144.out⟩, ⟨by (with_reducible repeat (first | refine blk_drewN ?_ _ | refine blk_drew ?_ | refine blk_alloc ?_ _)); refine blk_put (cs := #[.int .i64 (wrap64 (1 + t145)), .slice none 0 0, .slice none 0 0]) ?_ 2 _ rfl; (with_reducible repeat (first | refine blk_drewN ?_ _ | refine blk_drew ?_ | refine blk_alloc ?_ _)); refine blk_put (cs := #[.int .i64 (wrap64 (1 + t145)), .slice none 0 0, .slice none 0 0]) ?_ 1 _ rfl; (with_reducible repeat (first | refine blk_drewN ?_ _ | refine blk_drew ?_ | refine blk_alloc ?_ _)); refine blk_put (cs := #[.int .i64 0, .slice none 0 0, .slice none 0 0]) ?_ 0 _ rfl; (with_reducible repeat (first | refine blk_drewN ?_ _ | refine blk_drew ?_ | refine blk_alloc ?_ _)); exact BK148.out⟩, ⟨by repeat (first | (with_reducible first | exact HI0.out | apply IsS77.alloc | apply IsS77.drewN | apply IsS77.drew | apply IsS77.set_1 | apply IsS77.set_2 | refine IsS77.far ?_ NB0_144.out _ | refine IsS77.far ?_ NB0_148.out _) | exact HI0.out)⟩, ⟨by repeat (first | (with_reducible first | exact HK.out | apply KeepBut.set_ | apply keep_drewN | apply keep_drew | apply keep_alloc | refine keep_far ?_ GW144.out _ | refine keep_far ?_ GW148.out _) | exact HK.out)⟩, ⟨by repeat (first | (with_reducible first | exact HB.out | apply below_alloc | apply pw_below_drewN | apply below_drew1 | refine below_set ?_ (IsS77.ge HI0.out) | refine below_set ?_ GE144.out | refine below_set ?_ GE148.out) | exact HB.out)⟩⟩
 case round =>
  clear H'
  try clear p2
  try clear c3
  try clear c5
  try clear c6
  try clear p6
  try clear c7
  try clear hcz8_0
  try clear hcz8_1
  try clear hcz8_2
  try clear hfz8_0
  try clear hfz8_1
  try clear hfz8_2
  obtain ⟨x4_1, x1001_1, x1002_1, x149001_1, x149002_1, u149001, u149002, rfl, HA, HK1, HO_149001, HO_149002, BK144, BK148, HI0, HK, HB⟩ := hrel
  cases gk with
  | zero => exact absurd HA.out (by simp [spec_l13Draw.l0])
  | succ k1 =>
   have H := HA.out
   clear HA
   simp only [spec_l13Draw.l0] at H
   by_cases c9 : x4_1 < (wrap64 (1 + t145))
   ·rw [if_pos c9] at H
    have c9b0 : decide (x4_1 < (wrap64 (1 + t145))) = true := decide_eq_true c9
    clear c9
    replace H := Option.bind_eq_some_iff.mp H
    obtain ⟨⟨t149, t150, t151⟩, A100, H⟩ := H
    replace H : ((spec_l1Below.f s0_0 t150 t151 3).bind fun bt152 => (if x4_1 = 0 then ((spec_l1Below.f s0_0 bt152.2.1 bt152.2.2 2).bind fun bt155 => (spec_l13Draw.j1 k1 x4_1 t149 (wrap64 (1 + bt155.1)) s0_0 bt155.2.1 bt155.2.2 (wrap64 (1 + t145)) x149001_1 x149002_1)) else (spec_l13Draw.j1 k1 x4_1 t149 bt152.1 s0_0 bt152.2.1 bt152.2.2 (wrap64 (1 + t145)) x149001_1 x149002_1))) = some (r1, r2, r3, r4, r5) := H
    have A10 := Aside0.mk A100
    clear A100
    replace H := Option.bind_eq_some_iff.mp H
    obtain ⟨⟨t152, t153, t154⟩, A110, H⟩ := H
    replace H : (if x4_1 = 0 then ((spec_l1Below.f s0_0 t153 t154 2).bind fun bt155 => (spec_l13Draw.j1 k1 x4_1 t149 (wrap64 (1 + bt155.1)) s0_0 bt155.2.1 bt155.2.2 (wrap64 (1 + t145)) x149001_1 x149002_1)) else (spec_l13Draw.j1 k1 x4_1 t149 t152 s0_0 t153 t154 (wrap64 (1 + t145)) x149001_1 x149002_1)) = some (r1, r2, r3, r4, r5) := H
    have A11 := Aside0.mk A110
    clear A110
    have HC12 := Aside0.mk H
    clear H
    have hnb13 := NB148_144.out
    have hnc13 := NB144_148.out
    have hnb14 := NB148_0.out
    have hnc14 := NB0_148.out
    have hcz15_0 := bc0 BK148
    have hcz15_1 := bc1 BK148
    have hcz15_2 := bc2 BK148
    have hfz15_0 := bf BK148 0
    have hfz15_1 := bf BK148 1
    have hfz15_2 := bf BK148 2
    go_upto_if 24 with (first | ((with_reducible refine gate_callee (f := 39) rfl ?_); refine goesL_ (some 20) rfl rfl Try.func39 (by kernel_rfl) rfl #[.pointer (some ⟨g, 0, none⟩), .int .i64 2] rfl zG ?_; (with_reducible refine (spec_l1Once.calls g s0_0 x1001_1 x1002_1 2 t149 t150 t151 w0 _ ?side1 ?side2 A10.out).mono ?_); (case side1 => repeat (first | (with_reducible first | exact HI0.out | apply IsS77.alloc | apply IsS77.drewN | apply IsS77.drew | apply IsS77.set_1 | apply IsS77.set_2 | refine IsS77.far ?_ NB0_144.out _ | refine IsS77.far ?_ NB0_148.out _) | exact HI0.out)); (case side2 => repeat (first | (with_reducible first | exact HB.out | apply below_alloc | apply pw_below_drewN | apply below_drew1 | refine below_set ?_ (IsS77.ge HI0.out) | refine below_set ?_ GE144.out | refine below_set ?_ GE148.out) | exact HB.out)); rintro e w16 ⟨rfl, hi, hb, hk⟩; refine ⟨_, rfl, ?_⟩; have n0_ := Aside0.mk (Kd.R_mono (Kd.R_keep (IsS77.apart (show IsS77 w0 _ g s0_0 x1001_1 x1002_1 from by repeat (first | (with_reducible first | exact HI0.out | apply IsS77.alloc | apply IsS77.drewN | apply IsS77.drew | apply IsS77.set_1 | apply IsS77.set_2 | refine IsS77.far ?_ NB0_144.out _ | refine IsS77.far ?_ NB0_148.out _) | exact HI0.out)) (zR HO_149001) (by decide)) hk (fun _ h => h.2)) (fun _ h => h.1)); have n1_ := Aside0.mk (Kd.R_mono (Kd.R_keep (IsS77.apart (show IsS77 w0 _ g s0_0 x1001_1 x1002_1 from by repeat (first | (with_reducible first | exact HI0.out | apply IsS77.alloc | apply IsS77.drewN | apply IsS77.drew | apply IsS77.set_1 | apply IsS77.set_2 | refine IsS77.far ?_ NB0_144.out _ | refine IsS77.far ?_ NB0_148.out _) | exact HI0.out)) (zR HO_149002) (by decide)) hk (fun _ h => h.2)) (fun _ h => h.1)); have n2_ := Aside0.mk (KeepBut.blk hk (g' := gb144) (o := .cells #[.int .i64 0, .slice none 0 0, .slice none 0 0] 29 (0, 0)) (zK BK144) NB144_0.out (by simp)); have n3_ := Aside0.mk (KeepBut.blk hk (g' := gb148) (o := .cells #[.int .i64 (wrap64 (1 + t145)), u149001, u149002] 29 (0, 0)) (zK BK148) NB148_0.out (by simp)); have n4_ := Aside0.mk (KeepBut.trans (by repeat (first | (with_reducible first | exact HK.out | apply KeepBut.set_ | apply keep_drewN | apply keep_drew | apply keep_alloc | refine keep_far ?_ GW144.out _ | refine keep_far ?_ GW148.out _) | exact HK.out)) hk (.inl rfl)); have n5_ := Aside0.mk (hb); have n6_ := Aside0.mk (hi); clear HO_149001; clear HO_149002; clear BK144; clear BK148; clear HK; clear HB; clear HI0; have HO_149001 := n0_; have HO_149002 := n1_; have BK144 := n2_; have BK148 := n3_; have HK := n4_; have HB := n5_; have HI0 := n6_; clear n0_ n1_ n2_ n3_ n4_ n5_ n6_; (try clear hb)) | ((with_reducible refine gate_callee (f := 38) rfl ?_); refine goesL_ (some 22) rfl rfl Try.func38 (by kernel_rfl) rfl #[.pointer (some ⟨g, 0, none⟩), .int .i64 3] rfl zG ?_; (with_reducible refine (spec_l1Below.calls g s0_0 t150 t151 3 t152 t153 t154 w0 _ ?side1 ?side2 A11.out).mono ?_); (case side1 => repeat (first | (with_reducible first | exact HI0.out | apply IsS77.alloc | apply IsS77.drewN | apply IsS77.drew | apply IsS77.set_1 | apply IsS77.set_2 | refine IsS77.far ?_ NB0_144.out _ | refine IsS77.far ?_ NB0_148.out _) | exact HI0.out)); (case side2 => repeat (first | (with_reducible first | exact HB.out | apply below_alloc | apply pw_below_drewN | apply below_drew1 | refine below_set ?_ (IsS77.ge HI0.out) | refine below_set ?_ GE144.out | refine below_set ?_ GE148.out) | exact HB.out)); rintro e w17 ⟨rfl, hi, hb, hk⟩; refine ⟨_, rfl, ?_⟩; have n0_ := Aside0.mk (Kd.R_mono (Kd.R_keep (IsS77.apart (show IsS77 w0 _ g s0_0 t150 t151 from by repeat (first | (with_reducible first | exact HI0.out | apply IsS77.alloc | apply IsS77.drewN | apply IsS77.drew | apply IsS77.set_1 | apply IsS77.set_2 | refine IsS77.far ?_ NB0_144.out _ | refine IsS77.far ?_ NB0_148.out _) | exact HI0.out)) (zR HO_149001) (by decide)) hk (fun _ h => h.2)) (fun _ h => h.1)); have n1_ := Aside0.mk (Kd.R_mono (Kd.R_keep (IsS77.apart (show IsS77 w0 _ g s0_0 t150 t151 from by repeat (first | (with_reducible first | exact HI0.out | apply IsS77.alloc | apply IsS77.drewN | apply IsS77.drew | apply IsS77.set_1 | apply IsS77.set_2 | refine IsS77.far ?_ NB0_144.out _ | refine IsS77.far ?_ NB0_148.out _) | exact HI0.out)) (zR HO_149002) (by decide)) hk (fun _ h => h.2)) (fun _ h => h.1)); have n2_ := Aside0.mk (KeepBut.blk hk (g' := gb144) (o := .cells #[.int .i64 0, .slice none 0 0, .slice none 0 0] 29 (0, 0)) (zK BK144) NB144_0.out (by simp)); have n3_ := Aside0.mk (KeepBut.blk hk (g' := gb148) (o := .cells #[.int .i64 (wrap64 (1 + t145)), u149001, u149002] 29 (0, 0)) (zK BK148) NB148_0.out (by simp)); have n4_ := Aside0.mk (KeepBut.trans (by repeat (first | (with_reducible first | exact HK.out | apply KeepBut.set_ | apply keep_drewN | apply keep_drew | apply keep_alloc | refine keep_far ?_ GW144.out _ | refine keep_far ?_ GW148.out _) | exact HK.out)) hk (.inl rfl)); have n5_ := Aside0.mk (hb); have n6_ := Aside0.mk (hi); clear HO_149001; clear HO_149002; clear BK144; clear BK148; clear HK; clear HB; clear HI0; have HO_149001 := n0_; have HO_149002 := n1_; have BK144 := n2_; have BK148 := n3_; have HK := n4_; have HB := n5_; have HI0 := n6_; clear n0_ n1_ n2_ n3_ n4_ n5_ n6_; (try clear hb)))
    (try simp only [Act.put, List.setIfInBounds_toArray, List.set_cons_zero, List.set_cons_succ])
    go_cut [6] (fun v6 wc => ∃ (kq : Nat) (x6_11 : Int) (x1001_11 : Int) (x1002_11 : Int), v6 = .int .i64 x6_11 ∧ Aside0 (spec_l13Draw.j1 kq x4_1 t149 x6_11 s0_0 x1001_11 x1002_11 (wrap64 (1 + t145)) x149001_1 x149002_1 = some (r1, r2, r3, r4, r5)) ∧ Aside0 (kq ≤ k1) ∧ Aside0 (Kd.R Kd.bool 4 wc w.heap.size (fun _ => True) u149001 x149001_1) ∧ Aside0 (Kd.R k54 54 wc w.heap.size (fun _ => True) u149002 x149002_1) ∧ Aside0 (wc.heap[gb144]? = some (.cells #[.int .i64 0, (.slice none 0 0), (.slice none 0 0)] 29 (0, 0))) ∧ Aside0 (wc.heap[gb148]? = some (.cells #[.int .i64 (wrap64 (1 + t145)), u149001, u149002] 29 (0, 0))) ∧ Aside0 (IsS77 w0 wc g s0_0 x1001_11 x1002_11) ∧ Aside0 (KeepBut w wc g none) ∧ Aside0 (Below w0.heap.size w0 wc))
    case first =>
     have H := HC12.out
     clear HC12
     by_cases c18 : x4_1 = 0
     ·rw [if_pos c18] at H
      have c18b0 : (x4_1 == 0) = true := beq_iff_eq.mpr c18
      have c18b1 : (x4_1 != 0) = false := bne_eq_false_iff_eq.mpr c18
      clear c18
      (first | rw [c18b0] | (simp only [i64_w, i32_w]; rw [c18b0]) | skip)
      replace H := Option.bind_eq_some_iff.mp H
      obtain ⟨⟨t155, t156, t157⟩, A190, H⟩ := H
      replace H : (spec_l13Draw.j1 k1 x4_1 t149 (wrap64 (1 + t155)) s0_0 t156 t157 (wrap64 (1 + t145)) x149001_1 x149002_1) = some (r1, r2, r3, r4, r5) := H
      have A19 := Aside0.mk A190
      clear A190
      have H' := Aside0.mk H
      clear H
      go_wp2_with (first | ((with_reducible refine gate_callee (f := 38) rfl ?_); refine goesL_ (some 26) rfl rfl Try.func38 (by kernel_rfl) rfl #[.pointer (some ⟨g, 0, none⟩), .int .i64 2] rfl zG ?_; (with_reducible refine (spec_l1Below.calls g s0_0 t153 t154 2 t155 t156 t157 w0 _ ?side1 ?side2 A19.out).mono ?_); (case side1 => repeat (first | (with_reducible first | exact HI0.out | apply IsS77.alloc | apply IsS77.drewN | apply IsS77.drew | apply IsS77.set_1 | apply IsS77.set_2 | refine IsS77.far ?_ NB0_144.out _ | refine IsS77.far ?_ NB0_148.out _) | exact HI0.out)); (case side2 => repeat (first | (with_reducible first | exact HB.out | apply below_alloc | apply pw_below_drewN | apply below_drew1 | refine below_set ?_ (IsS77.ge HI0.out) | refine below_set ?_ GE144.out | refine below_set ?_ GE148.out) | exact HB.out)); rintro e w20 ⟨rfl, hi, hb, hk⟩; refine ⟨_, rfl, ?_⟩; have n0_ := Aside0.mk (Kd.R_mono (Kd.R_keep (IsS77.apart (show IsS77 w0 _ g s0_0 t153 t154 from by repeat (first | (with_reducible first | exact HI0.out | apply IsS77.alloc | apply IsS77.drewN | apply IsS77.drew | apply IsS77.set_1 | apply IsS77.set_2 | refine IsS77.far ?_ NB0_144.out _ | refine IsS77.far ?_ NB0_148.out _) | exact HI0.out)) (zR HO_149001) (by decide)) hk (fun _ h => h.2)) (fun _ h => h.1)); have n1_ := Aside0.mk (Kd.R_mono (Kd.R_keep (IsS77.apart (show IsS77 w0 _ g s0_0 t153 t154 from by repeat (first | (with_reducible first | exact HI0.out | apply IsS77.alloc | apply IsS77.drewN | apply IsS77.drew | apply IsS77.set_1 | apply IsS77.set_2 | refine IsS77.far ?_ NB0_144.out _ | refine IsS77.far ?_ NB0_148.out _) | exact HI0.out)) (zR HO_149002) (by decide)) hk (fun _ h => h.2)) (fun _ h => h.1)); have n2_ := Aside0.mk (KeepBut.blk hk (g' := gb144) (o := .cells #[.int .i64 0, .slice none 0 0, .slice none 0 0] 29 (0, 0)) (zK BK144) NB144_0.out (by simp)); have n3_ := Aside0.mk (KeepBut.blk hk (g' := gb148) (o := .cells #[.int .i64 (wrap64 (1 + t145)), u149001, u149002] 29 (0, 0)) (zK BK148) NB148_0.out (by simp)); have n4_ := Aside0.mk (KeepBut.trans (by repeat (first | (with_reducible first | exact HK.out | apply KeepBut.set_ | apply keep_drewN | apply keep_drew | apply keep_alloc | refine keep_far ?_ GW144.out _ | refine keep_far ?_ GW148.out _) | exact HK.out)) hk (.inl rfl)); have n5_ := Aside0.mk (hb); have n6_ := Aside0.mk (hi); clear HO_149001; clear HO_149002; clear BK144; clear BK148; clear HK; clear HB; clear HI0; have HO_149001 := n0_; have HO_149002 := n1_; have BK144 := n2_; have BK148 := n3_; have HK := n4_; have HB := n5_; have HI0 := n6_; clear n0_ n1_ n2_ n3_ n4_ n5_ n6_; (try clear hb)))
      go_meet
      case rel => exact ⟨_, (wrap64 (1 + t155)), (t156), (t157), zF, H', ⟨by have := HK1.out; first | omega | exact Nat.le_refl _⟩, ⟨zR HO_149001⟩, ⟨zR HO_149002⟩, ⟨zK BK144⟩, ⟨zK BK148⟩, ⟨by repeat (first | (with_reducible first | exact HI0.out | apply IsS77.alloc | apply IsS77.drewN | apply IsS77.drew | apply IsS77.set_1 | apply IsS77.set_2 | refine IsS77.far ?_ NB0_144.out _ | refine IsS77.far ?_ NB0_148.out _) | exact HI0.out)⟩, ⟨by repeat (first | (with_reducible first | exact HK.out | apply KeepBut.set_ | apply keep_drewN | apply keep_drew | apply keep_alloc | refine keep_far ?_ GW144.out _ | refine keep_far ?_ GW148.out _) | exact HK.out)⟩, ⟨by repeat (first | (with_reducible first | exact HB.out | apply below_alloc | apply pw_below_drewN | apply below_drew1 | refine below_set ?_ (IsS77.ge HI0.out) | refine below_set ?_ GE144.out | refine below_set ?_ GE148.out) | exact HB.out)⟩⟩
     ·rw [if_neg c18] at H
      have c18b0 : (x4_1 == 0) = false := beq_eq_false_iff_ne.mpr c18
      have c18b1 : (x4_1 != 0) = true := bne_iff_ne.mpr c18
      (first | rw [c18b0] | (simp only [i64_w, i32_w]; rw [c18b0]) | skip)
      have H' := Aside0.mk H
      clear H
      go_wp2
      go_meet
      case rel => exact ⟨_, (t152), (t153), (t154), zF, H', ⟨by have := HK1.out; first | omega | exact Nat.le_refl _⟩, ⟨zR HO_149001⟩, ⟨zR HO_149002⟩, ⟨zK BK144⟩, ⟨zK BK148⟩, ⟨by repeat (first | (with_reducible first | exact HI0.out | apply IsS77.alloc | apply IsS77.drewN | apply IsS77.drew | apply IsS77.set_1 | apply IsS77.set_2 | refine IsS77.far ?_ NB0_144.out _ | refine IsS77.far ?_ NB0_148.out _) | exact HI0.out)⟩, ⟨by repeat (first | (with_reducible first | exact HK.out | apply KeepBut.set_ | apply keep_drewN | apply keep_drew | apply keep_alloc | refine keep_far ?_ GW144.out _ | refine keep_far ?_ GW148.out _) | exact HK.out)⟩, ⟨by repeat (first | (with_reducible first | exact HB.out | apply below_alloc | apply pw_below_drewN | apply below_drew1 | refine below_set ?_ (IsS77.ge HI0.out) | refine below_set ?_ GE144.out | refine below_set ?_ GE148.out) | exact HB.out)⟩⟩
    case rest =>
     clear HC12
     try clear c1
     try clear p2
     try clear c3
     try clear c5
     try clear c6
     try clear p6
     try clear c7
     try clear c9
     try clear c9b0
     try clear c13
     try clear c14
     try clear c18
     try clear c18b0
     try clear c18b1
     try clear hcz15_0
     try clear hcz15_1
     try clear hcz15_2
     try clear hcz8_0
     try clear hcz8_1
     try clear hcz8_2
     try clear hfz15_0
     try clear hfz15_1
     try clear hfz15_2
     try clear hfz8_0
     try clear hfz8_1
     try clear hfz8_2
     try clear p2
     try clear p6
     obtain ⟨kq, x6_11, x1001_11, x1002_11, rfl, HA, HJ11, HO_149001, HO_149002, BK144, BK148, HI0, HK, HB⟩ := hcut
     cases kq with
     | zero => exact absurd HA.out (by simp [spec_l13Draw.j1])
     | succ kj11 =>
      have H := HA.out
      clear HA
      simp only [spec_l13Draw.j1] at H
      have H' := Aside0.mk H
      clear H
      go_wp2
      go_loopg [7] kj11 (fun kq v7 w' => ∃ (x7_3 : Int) (x1001_3 : Int) (x1002_3 : Int) (x149002_3 : List (S54)) (u149002 : Value), v7 = .int .i64 x7_3 ∧ Aside0 (spec_l13Draw.l1 kq x4_1 t149 x6_11 x7_3 s0_0 x1001_3 x1002_3 (wrap64 (1 + t145)) x149001_1 x149002_3 = some (r1, r2, r3, r4, r5)) ∧ Aside0 (kq ≤ kj11) ∧ Aside0 (Kd.R Kd.bool 4 w' w.heap.size (fun _ => True) u149001 x149001_1) ∧ Aside0 (Kd.R k54 54 w' w.heap.size (fun _ => True) u149002 x149002_3) ∧ Aside0 (w'.heap[gb144]? = some (.cells #[.int .i64 0, (.slice none 0 0), (.slice none 0 0)] 29 (0, 0))) ∧ Aside0 (w'.heap[gb148]? = some (.cells #[.int .i64 (wrap64 (1 + t145)), u149001, u149002] 29 (0, 0))) ∧ Aside0 (IsS77 w0 w' g s0_0 x1001_3 x1002_3) ∧ Aside0 (KeepBut w w' g none) ∧ Aside0 (Below w0.heap.size w0 w'))
      case atStart => exact ⟨(0), (x1001_11), (x1002_11), (x149002_1), (u149002), zF, H', ⟨Nat.le_refl _⟩, ⟨zR HO_149001⟩, ⟨zR HO_149002⟩, ⟨zK BK144⟩, ⟨zK BK148⟩, ⟨by repeat (first | (with_reducible first | exact HI0.out | apply IsS77.alloc | apply IsS77.drewN | apply IsS77.drew | apply IsS77.set_1 | apply IsS77.set_2 | refine IsS77.far ?_ NB0_144.out _ | refine IsS77.far ?_ NB0_148.out _) | exact HI0.out)⟩, ⟨by repeat (first | (with_reducible first | exact HK.out | apply KeepBut.set_ | apply keep_drewN | apply keep_drew | apply keep_alloc | refine keep_far ?_ GW144.out _ | refine keep_far ?_ GW148.out _) | exact HK.out)⟩, ⟨by repeat (first | (with_reducible first | exact HB.out | apply below_alloc | apply pw_below_drewN | apply below_drew1 | refine below_set ?_ (IsS77.ge HI0.out) | refine below_set ?_ GE144.out | refine below_set ?_ GE148.out) | exact HB.out)⟩⟩
      case round =>
       clear H'
       try clear c1
       try clear p2
       try clear c3
       try clear c5
       try clear c6
       try clear p6
       try clear c7
       try clear c9
       try clear c9b0
       try clear c13
       try clear c14
       try clear c18
       try clear c18b0
       try clear c18b1
       try clear hcz15_0
       try clear hcz15_1
       try clear hcz15_2
       try clear hcz8_0
       try clear hcz8_1
       try clear hcz8_2
       try clear hfz15_0
       try clear hfz15_1
       try clear hfz15_2
       try clear hfz8_0
       try clear hfz8_1
       try clear hfz8_2
       try clear p2
       try clear p6
       obtain ⟨x7_3, x1001_3, x1002_3, x149002_3, u149002, rfl, HA, HK3, HO_149001, HO_149002, BK144, BK148, HI0, HK, HB⟩ := hrel
       cases gk with
       | zero => exact absurd HA.out (by simp [spec_l13Draw.l1])
       | succ k3 =>
        have H := HA.out
        clear HA
        simp only [spec_l13Draw.l1] at H
        by_cases c21 : x7_3 < x6_11
        ·rw [if_pos c21] at H
         have c21b0 : decide (x7_3 < x6_11) = true := decide_eq_true c21
         clear c21
         replace H := Option.bind_eq_some_iff.mp H
         obtain ⟨⟨t167, t168, t169⟩, A220, H⟩ := H
         replace H : ((spec_l1Below.f s0_0 t168 t169 (wrap64 (1 + t145))).bind fun bt170 => ((spec_MoveOf.f k3 (wrap64 (1 + t145)) x149001_1 x149002_3 x4_1 t149 t167).bind fun t174 => (if t174 < 0 then (if x149002_3.length < 4398046511104 then (spec_l13Draw.l1 k3 x4_1 t149 x6_11 (wrap64 (x7_3 + 1)) s0_0 bt170.2.1 bt170.2.2 (wrap64 (1 + t145)) x149001_1 (x149002_3 ++ [(⟨x4_1, t149, t167, bt170.1⟩ : S54)])) else (none)) else (spec_l13Draw.l1 k3 x4_1 t149 x6_11 (wrap64 (x7_3 + 1)) s0_0 bt170.2.1 bt170.2.2 (wrap64 (1 + t145)) x149001_1 x149002_3)))) = some (r1, r2, r3, r4, r5) := H
         have A22 := Aside0.mk A220
         clear A220
         replace H := Option.bind_eq_some_iff.mp H
         obtain ⟨⟨t170, t171, t172⟩, A230, H⟩ := H
         replace H : ((spec_MoveOf.f k3 (wrap64 (1 + t145)) x149001_1 x149002_3 x4_1 t149 t167).bind fun t174 => (if t174 < 0 then (if x149002_3.length < 4398046511104 then (spec_l13Draw.l1 k3 x4_1 t149 x6_11 (wrap64 (x7_3 + 1)) s0_0 t171 t172 (wrap64 (1 + t145)) x149001_1 (x149002_3 ++ [(⟨x4_1, t149, t167, t170⟩ : S54)])) else (none)) else (spec_l13Draw.l1 k3 x4_1 t149 x6_11 (wrap64 (x7_3 + 1)) s0_0 t171 t172 (wrap64 (1 + t145)) x149001_1 x149002_3))) = some (r1, r2, r3, r4, r5) := H
         have A23 := Aside0.mk A230
         clear A230
         replace H := Option.bind_eq_some_iff.mp H
         obtain ⟨t174, A240, H⟩ := H
         replace H : (if t174 < 0 then (if x149002_3.length < 4398046511104 then (spec_l13Draw.l1 k3 x4_1 t149 x6_11 (wrap64 (x7_3 + 1)) s0_0 t171 t172 (wrap64 (1 + t145)) x149001_1 (x149002_3 ++ [(⟨x4_1, t149, t167, t170⟩ : S54)])) else (none)) else (spec_l13Draw.l1 k3 x4_1 t149 x6_11 (wrap64 (x7_3 + 1)) s0_0 t171 t172 (wrap64 (1 + t145)) x149001_1 x149002_3)) = some (r1, r2, r3, r4, r5) := H
         have A24 := Aside0.mk A240
         clear A240
         by_cases c25 : t174 < 0
         ·rw [if_pos c25] at H
          have c25b0 : decide (t174 < 0) = true := decide_eq_true c25
          clear c25
          by_cases c26 : x149002_3.length < 4398046511104
          ·rw [if_pos c26] at H
           have LMc26 := Aside0.mk c26
           clear c26
           obtain ⟨y175, hy175⟩ : ∃ y_ : List (S54), y_ = (x149002_3 ++ [(⟨x4_1, t149, t167, t170⟩ : S54)]) := ⟨_, rfl⟩
           replace H : (spec_l13Draw.l1 k3 x4_1 t149 x6_11 (wrap64 (x7_3 + 1)) s0_0 t171 t172 (wrap64 (1 + t145)) x149001_1 y175) = some (r1, r2, r3, r4, r5) := by first | (rw [hy175]; with_reducible exact H) | (have H2_ := (Option.bind_some _ _).symm.trans H; rw [hy175]; with_reducible exact H2_) | (have H2_ := (Option.bind_some _ _).symm.trans H; with_reducible exact H2_) | with_reducible exact H | (rw [hy175]; exact H) | exact H
           have Ny175 := Aside0.mk hy175
           clear hy175
           have H' := Aside0.mk H
           clear H
           try go_wp2
           have n0_ := Aside0.mk (Kd.R_drew HO_149001.out)
           have n1_ := Aside0.mk (Kd.R_drew HO_149002.out)
           have n2_ := Aside0.mk (blk_drew BK144.out)
           have n3_ := Aside0.mk (blk_drew BK148.out)
           have n4_ := Aside0.mk (IsS77.drew HI0.out)
           have n5_ := Aside0.mk (keep_drew HK.out)
           have n6_ := Aside0.mk (below_drew1 HB.out)
           clear HO_149001
           clear HO_149002
           clear BK144
           clear BK148
           clear HI0
           clear HK
           clear HB
           have HO_149001 := n0_
           have HO_149002 := n1_
           have BK144 := n2_
           have BK148 := n3_
           have HI0 := n4_
           have HK := n5_
           have HB := n6_
           clear n0_ n1_ n2_ n3_ n4_ n5_ n6_
           refine start_ (n := 11) (S := fun w' => w'.cell? ⟨gb148, 0, none⟩ = some (.int .i64 (wrap64 (1 + t145))) ∧ w'.cell? ⟨gb148, 1, none⟩ = some (u149001) ∧ w'.cell? ⟨gb148, 2, none⟩ = some (u149002)) (ds := []) (bm 11 0) (by kernel_rfl) rfl (bm0 _) ⟨bc0 BK148, bc1 BK148, bc2 BK148⟩ (fun hHeld => ?_); refine with_tabW spec_l13Draw.tab12 spec_l13Draw.bits12 (fun HT_ HW_ => ?_)
           generalize wr.drew = w27 at HO_149001 HO_149002 BK144 BK148 HI0 HK HB hHeld ⊢
           refine pure_ (i := 0) (N := some 33) (v := ?_) (a' := ?_) (bm 11 1) rfl rfl (any_of HT_.out (by kernel_rfl)) (fun _ _ _ h => h) (Or.inl ⟨by rfl, ?_⟩) ?_ ?_
           rotate_left
           ·intro w'
            go_simp
            with_reducible rfl
           rotate_left
           ·simp only [Act.put, List.setIfInBounds_toArray, List.set_cons_zero, List.set_cons_succ, i64_w, i32_w]
            rfl
           refine pure_ (i := 1) (N := some 34) (v := ?_) (a' := ?_) (bm 11 3) rfl rfl (any_of HT_.out (by kernel_rfl)) (fun _ _ _ h => h) (Or.inl ⟨by rfl, ?_⟩) ?_ ?_
           rotate_left
           ·intro w'
            go_simp
            with_reducible rfl
           rotate_left
           ·simp only [Act.put, List.setIfInBounds_toArray, List.set_cons_zero, List.set_cons_succ, i64_w, i32_w]
            rfl
           refine pure_ (i := 2) (N := some 35) (v := ?_) (a' := ?_) (bm 11 7) rfl rfl (any_of HT_.out (by kernel_rfl)) (fun _ _ _ h => h) (Or.inl ⟨by rfl, ?_⟩) ?_ ?_
           rotate_left
           ·intro w'
            go_simp
            with_reducible rfl
           rotate_left
           ·simp only [Act.put, List.setIfInBounds_toArray, List.set_cons_zero, List.set_cons_succ, i64_w, i32_w]
            rfl
           refine pure_ (i := 4) (N := some 37) (v := ?_) (a' := ?_) (bm 11 23) rfl rfl (any_of HT_.out (by kernel_rfl)) (fun _ _ _ h => h) (Or.inl ⟨by rfl, ?_⟩) ?_ ?_
           rotate_left
           ·intro w'
            go_simp
            with_reducible rfl
           rotate_left
           ·simp only [Act.put, List.setIfInBounds_toArray, List.set_cons_zero, List.set_cons_succ, i64_w, i32_w]
            rfl
           refine pure_ (i := 5) (N := some 38) (v := ?_) (a' := ?_) (bm 11 55) rfl rfl (any_of HT_.out (by kernel_rfl)) (fun _ _ _ h => h) (Or.inl ⟨by rfl, ?_⟩) ?_ ?_
           rotate_left
           ·intro w'
            go_simp
            with_reducible rfl
           rotate_left
           ·simp only [Act.put, List.setIfInBounds_toArray, List.set_cons_zero, List.set_cons_succ, i64_w, i32_w]
            rfl
           refine take_ (i := 6) (N := some 39) (v := ?_) (a' := ?_) (bm 11 119) rfl rfl (take_ofW HT_.out HW_.out (by kernel_rfl)) (fun _ _ _ h => h) (Or.inl ⟨by rfl, ?_⟩) hHeld ?_ ?_
           rotate_left
           ·rintro w' ⟨s0, s1, s2⟩
            go_simp
            with_reducible rfl
           rotate_left
           ·simp only [Act.put, List.setIfInBounds_toArray, List.set_cons_zero, List.set_cons_succ, i64_w, i32_w]
            rfl
           refine join_ (σ := Nat) 1 (bm 11 1023) (fun s_ => [(36, .int .i64 t167), (40, .int .i64 t170), (8, .pointer (some ⟨s_, 0, none⟩)), (41, .agg #[.int .i64 x4_1, .bool t149, .int .i64 t167, .int .i64 t170])]) (fun s_ w' => (w'.cell? ⟨gb148, 0, none⟩ = some (.int .i64 (wrap64 (1 + t145))) ∧ w'.cell? ⟨gb148, 1, none⟩ = some (u149001) ∧ w'.cell? ⟨gb148, 2, none⟩ = some (u149002)) ∧ (Kd.R Kd.bool 4 w' w.heap.size (fun _ => True) u149001 x149001_1) ∧ (Kd.R k54 54 w' w.heap.size (fun k_ => k_ ≠ s_) u149002 x149002_3) ∧ (w'.heap[gb144]? = some (.cells #[.int .i64 0, .slice none 0 0, .slice none 0 0] 29 (0, 0))) ∧ (w'.heap[gb148]? = some (.cells #[.int .i64 (wrap64 (1 + t145)), u149001, u149002] 29 (0, 0))) ∧ (w'.heap[s_]? = some (.cells #[.int .i64 0, .bool false, .int .i64 0, .int .i64 0] 54 (0, 0))) ∧ (w.heap.size ≤ s_) ∧ (w0.heap.size ≤ s_) ∧ (g ≠ s_) ∧ (s_ ≠ g) ∧ (gb144 ≠ s_) ∧ (s_ ≠ gb144) ∧ (gb148 ≠ s_) ∧ (s_ ≠ gb148) ∧ (IsS77 w0 w' g s0_0 t171 t172) ∧ (KeepBut w w' g none) ∧ (Below w0.heap.size w0 w')) ?_ ?_
           rotate_left
           ·intro hCont
            refine two_ (i := 3) (j := 9) (Ni := some 36) (Nj := some 8) (bm 11 127) (bm 11 631) rfl rfl rfl rfl (two_of HT_.out (by kernel_rfl)) (by decide) (by decide) (fun K hK => ?_) (fun K hK => ?_)
            ·skip
             refine goes_ Try.func38 (by kernel_rfl) rfl #[.pointer (some ⟨g, 0, none⟩), .int .i64 3] (by rfl) rfl rfl zG ?_
             with_reducible refine (spec_l1Below.calls g s0_0 x1001_3 x1002_3 3 t167 t168 t169 w0 _ ?side1 ?side2 A22.out).mono ?_
             (case side1 => repeat (first | (with_reducible first | exact HI0.out | apply IsS77.alloc | apply IsS77.drewN | apply IsS77.drew | apply IsS77.set_1 | apply IsS77.set_2 | refine IsS77.far ?_ NB0_144.out _ | refine IsS77.far ?_ NB0_148.out _) | exact HI0.out))
             (case side2 => repeat (first | (with_reducible first | exact HB.out | apply below_alloc | apply pw_below_drewN | apply below_drew1 | refine below_set ?_ (IsS77.ge HI0.out) | refine below_set ?_ GE144.out | refine below_set ?_ GE148.out) | exact HB.out))
             rintro e w28 ⟨rfl, hi, hb, hk⟩
             refine ⟨_, rfl, ?_⟩
             have n0_ := Aside0.mk (Kd.R_mono (Kd.R_keep (IsS77.apart (show IsS77 w0 _ g s0_0 x1001_3 x1002_3 from by repeat (first | (with_reducible first | exact HI0.out | apply IsS77.alloc | apply IsS77.drewN | apply IsS77.drew | apply IsS77.set_1 | apply IsS77.set_2 | refine IsS77.far ?_ NB0_144.out _ | refine IsS77.far ?_ NB0_148.out _) | exact HI0.out)) (zR HO_149001) (by decide)) hk (fun _ h => h.2)) (fun _ h => h.1))
             have n1_ := Aside0.mk (Kd.R_mono (Kd.R_keep (IsS77.apart (show IsS77 w0 _ g s0_0 x1001_3 x1002_3 from by repeat (first | (with_reducible first | exact HI0.out | apply IsS77.alloc | apply IsS77.drewN | apply IsS77.drew | apply IsS77.set_1 | apply IsS77.set_2 | refine IsS77.far ?_ NB0_144.out _ | refine IsS77.far ?_ NB0_148.out _) | exact HI0.out)) (zR HO_149002) (by decide)) hk (fun _ h => h.2)) (fun _ h => h.1))
             have n2_ := Aside0.mk (KeepBut.blk hk (g' := gb144) (o := .cells #[.int .i64 0, .slice none 0 0, .slice none 0 0] 29 (0, 0)) (zK BK144) NB144_0.out (by simp))
             have n3_ := Aside0.mk (KeepBut.blk hk (g' := gb148) (o := .cells #[.int .i64 (wrap64 (1 + t145)), u149001, u149002] 29 (0, 0)) (zK BK148) NB148_0.out (by simp))
             have n4_ := Aside0.mk (KeepBut.trans (by repeat (first | (with_reducible first | exact HK.out | apply KeepBut.set_ | apply keep_drewN | apply keep_drew | apply keep_alloc | refine keep_far ?_ GW144.out _ | refine keep_far ?_ GW148.out _) | exact HK.out)) hk (.inl rfl))
             have n5_ := Aside0.mk (hb)
             have n6_ := Aside0.mk (hi)
             clear HO_149001
             clear HO_149002
             clear BK144
             clear BK148
             clear HK
             clear HB
             clear HI0
             have HO_149001 := n0_
             have HO_149002 := n1_
             have BK144 := n2_
             have BK148 := n3_
             have HK := n4_
             have HB := n5_
             have HI0 := n6_
             clear n0_ n1_ n2_ n3_ n4_ n5_ n6_
             (try clear hb)
             (try clear hb2)
             (try clear hk)
             (try clear hi)
             refine hK.out _ _ ⟨bc0 BK148, bc1 BK148, bc2 BK148⟩ (fun hHeld => ?_)
             clear hK K
             refine norm_ (a' := ?_) ?_ ?_
             rotate_left
             ·show Act.put _ (some 36) _ = _
              simp only [Act.put, List.setIfInBounds_toArray, List.set_cons_zero, List.set_cons_succ, i64_w, i32_w]
              rfl
             refine two_ (i := 7) (j := 9) (Ni := some 40) (Nj := some 8) (bm 11 255) (bm 11 639) rfl rfl rfl rfl (two_of HT_.out (by kernel_rfl)) (by decide) (by decide) (fun K hK => ?_) (fun K hK => ?_)
             ·skip
              refine goes_ Try.func38 (by kernel_rfl) rfl #[.pointer (some ⟨g, 0, none⟩), .int .i64 (wrap64 (1 + t145))] (by rfl) rfl rfl zG ?_
              with_reducible refine (spec_l1Below.calls g s0_0 t168 t169 (wrap64 (1 + t145)) t170 t171 t172 w0 _ ?side1 ?side2 A23.out).mono ?_
              (case side1 => repeat (first | (with_reducible first | exact HI0.out | apply IsS77.alloc | apply IsS77.drewN | apply IsS77.drew | apply IsS77.set_1 | apply IsS77.set_2 | refine IsS77.far ?_ NB0_144.out _ | refine IsS77.far ?_ NB0_148.out _) | exact HI0.out))
              (case side2 => repeat (first | (with_reducible first | exact HB.out | apply below_alloc | apply pw_below_drewN | apply below_drew1 | refine below_set ?_ (IsS77.ge HI0.out) | refine below_set ?_ GE144.out | refine below_set ?_ GE148.out) | exact HB.out))
              rintro e w29 ⟨rfl, hi, hb, hk⟩
              refine ⟨_, rfl, ?_⟩
              have n0_ := Aside0.mk (Kd.R_mono (Kd.R_keep (IsS77.apart (show IsS77 w0 _ g s0_0 t168 t169 from by repeat (first | (with_reducible first | exact HI0.out | apply IsS77.alloc | apply IsS77.drewN | apply IsS77.drew | apply IsS77.set_1 | apply IsS77.set_2 | refine IsS77.far ?_ NB0_144.out _ | refine IsS77.far ?_ NB0_148.out _) | exact HI0.out)) (zR HO_149001) (by decide)) hk (fun _ h => h.2)) (fun _ h => h.1))
              have n1_ := Aside0.mk (Kd.R_mono (Kd.R_keep (IsS77.apart (show IsS77 w0 _ g s0_0 t168 t169 from by repeat (first | (with_reducible first | exact HI0.out | apply IsS77.alloc | apply IsS77.drewN | apply IsS77.drew | apply IsS77.set_1 | apply IsS77.set_2 | refine IsS77.far ?_ NB0_144.out _ | refine IsS77.far ?_ NB0_148.out _) | exact HI0.out)) (zR HO_149002) (by decide)) hk (fun _ h => h.2)) (fun _ h => h.1))
              have n2_ := Aside0.mk (KeepBut.blk hk (g' := gb144) (o := .cells #[.int .i64 0, .slice none 0 0, .slice none 0 0] 29 (0, 0)) (zK BK144) NB144_0.out (by simp))
              have n3_ := Aside0.mk (KeepBut.blk hk (g' := gb148) (o := .cells #[.int .i64 (wrap64 (1 + t145)), u149001, u149002] 29 (0, 0)) (zK BK148) NB148_0.out (by simp))
              have n4_ := Aside0.mk (KeepBut.trans (by repeat (first | (with_reducible first | exact HK.out | apply KeepBut.set_ | apply keep_drewN | apply keep_drew | apply keep_alloc | refine keep_far ?_ GW144.out _ | refine keep_far ?_ GW148.out _) | exact HK.out)) hk (.inl rfl))
              have n5_ := Aside0.mk (hb)
              have n6_ := Aside0.mk (hi)
              clear HO_149001
              clear HO_149002
              clear BK144
              clear BK148
              clear HK
              clear HB
              clear HI0
              have HO_149001 := n0_
              have HO_149002 := n1_
              have BK144 := n2_
              have BK148 := n3_
              have HK := n4_
              have HB := n5_
              have HI0 := n6_
              clear n0_ n1_ n2_ n3_ n4_ n5_ n6_
              (try clear hb)
              (try clear hb2)
              (try clear hk)
              (try clear hi)
              refine hK.out _ _ ⟨bc0 BK148, bc1 BK148, bc2 BK148⟩ (fun hHeld => ?_)
              clear hK K
              refine norm_ (a' := ?_) ?_ ?_
              rotate_left
              ·show Act.put _ (some 40) _ = _
               simp only [Act.put, List.setIfInBounds_toArray, List.set_cons_zero, List.set_cons_succ, i64_w, i32_w]
               rfl
              refine pure_ (i := 8) (N := some 41) (v := ?_) (a' := ?_) (bm 11 511) rfl rfl (any_of HT_.out (by kernel_rfl)) (fun _ _ _ h => h) (Or.inl ⟨by rfl, ?_⟩) ?_ ?_
              rotate_left
              ·intro w'
               go_simp
               with_reducible rfl
              rotate_left
              ·simp only [Act.put, List.setIfInBounds_toArray, List.set_cons_zero, List.set_cons_succ, i64_w, i32_w]
               rfl
              refine one_ (i := 9) (N := some 8) (bm 11 1023) rfl rfl (one_of HT_.out (by kernel_rfl)) (by decide) (fun K hK => ?_)
              refine box_step ?hg (N := 8) ?hd (cs := #[.int .i64 0, .bool false, .int .i64 0, .int .i64 0]) (t := 54) ?hr ?_; (case hd => rfl); (case hg => rfl); (case hr => first | (go_simp; done) | (go_simp; rfl))
              intro gb173 hg w30 hbox hb
              have n0_ := Aside0.mk (Kd.R_below (zR HO_149001) hb)
              have n1_ := Aside0.mk (Kd.R_below (Kd.R_elderB (zR HO_149002) gb173 (Nat.le_of_eq hg.symm)) hb)
              have n2_ := kB BK144 hb
              have n3_ := kB BK148 hb
              have n4_ := Aside0.mk (IsS77.below (by repeat (first | (with_reducible first | exact HI0.out | apply IsS77.alloc | apply IsS77.drewN | apply IsS77.drew | apply IsS77.set_1 | apply IsS77.set_2 | refine IsS77.far ?_ NB0_144.out _ | refine IsS77.far ?_ NB0_148.out _) | exact HI0.out)) hb)
              have n5_ := Aside0.mk (KeepBut.trans (by repeat (first | (with_reducible first | exact HK.out | apply KeepBut.set_ | apply keep_drewN | apply keep_drew | apply keep_alloc | refine keep_far ?_ GW144.out _ | refine keep_far ?_ GW148.out _) | exact HK.out)) (KeepBut.of_below hb g none) (.inl rfl))
              have n6_ := Aside0.mk (below_step (by repeat (first | (with_reducible first | exact HB.out | apply below_alloc | apply pw_below_drewN | apply below_drew1 | refine below_set ?_ (IsS77.ge HI0.out) | refine below_set ?_ GE144.out | refine below_set ?_ GE148.out) | exact HB.out)) hb)
              have n7_ := Aside0.mk (hbox)
              have n8_ := Aside0.mk ((by rw [hg]; exact (keep_size (w := w) (g := g) (row := none) (by repeat (first | (with_reducible first | exact HK.out | apply KeepBut.set_ | apply keep_drewN | apply keep_drew | apply keep_alloc | refine keep_far ?_ GW144.out _ | refine keep_far ?_ GW148.out _) | exact HK.out))) : w.heap.size ≤ gb173))
              have n9_ := Aside0.mk ((Nat.le_trans HW0.out (by rw [hg]; exact (keep_size (w := w) (g := g) (row := none) (by repeat (first | (with_reducible first | exact HK.out | apply KeepBut.set_ | apply keep_drewN | apply keep_drew | apply keep_alloc | refine keep_far ?_ GW144.out _ | refine keep_far ?_ GW148.out _) | exact HK.out))) : w.heap.size ≤ gb173) : w0.heap.size ≤ gb173))
              have n10_ := Aside0.mk ((by rw [hg]; exact Nat.ne_of_lt (blk_lt (g := gb144) (o := .cells #[.int .i64 0, .slice none 0 0, .slice none 0 0] 29 (0, 0)) (zK BK144)) : gb144 ≠ gb173))
              have n11_ := Aside0.mk ((by rw [hg]; exact Nat.ne_of_gt (blk_lt (g := gb144) (o := .cells #[.int .i64 0, .slice none 0 0, .slice none 0 0] 29 (0, 0)) (zK BK144)) : gb173 ≠ gb144))
              have n12_ := Aside0.mk ((by rw [hg]; exact Nat.ne_of_lt (blk_lt (g := gb148) (o := .cells #[.int .i64 (wrap64 (1 + t145)), u149001, u149002] 29 (0, 0)) (zK BK148)) : gb148 ≠ gb173))
              have n13_ := Aside0.mk ((by rw [hg]; exact Nat.ne_of_gt (blk_lt (g := gb148) (o := .cells #[.int .i64 (wrap64 (1 + t145)), u149001, u149002] 29 (0, 0)) (zK BK148)) : gb173 ≠ gb148))
              have n14_ := Aside0.mk ((by rw [hg]; exact Nat.ne_of_lt (IsS77.lt (show IsS77 w0 _ g s0_0 t171 t172 from by repeat (first | (with_reducible first | exact HI0.out | apply IsS77.alloc | apply IsS77.drewN | apply IsS77.drew | apply IsS77.set_1 | apply IsS77.set_2 | refine IsS77.far ?_ NB0_144.out _ | refine IsS77.far ?_ NB0_148.out _) | exact HI0.out))) : g ≠ gb173))
              have n15_ := Aside0.mk ((by rw [hg]; exact Nat.ne_of_gt (IsS77.lt (show IsS77 w0 _ g s0_0 t171 t172 from by repeat (first | (with_reducible first | exact HI0.out | apply IsS77.alloc | apply IsS77.drewN | apply IsS77.drew | apply IsS77.set_1 | apply IsS77.set_2 | refine IsS77.far ?_ NB0_144.out _ | refine IsS77.far ?_ NB0_148.out _) | exact HI0.out))) : gb173 ≠ g))
              clear HO_149001
              clear HO_149002
              clear BK144
              clear BK148
              clear HI0
              clear HK
              clear HB
              have HO_149001 := n0_
              have HO_149002 := n1_
              have BK144 := n2_
              have BK148 := n3_
              have HI0 := n4_
              have HK := n5_
              have HB := n6_
              have BK173 := n7_
              have GW173 := n8_
              have GE173 := n9_
              have NB144_173 := n10_
              have NB173_144 := n11_
              have NB148_173 := n12_
              have NB173_148 := n13_
              have NB0_173 := n14_
              have NB173_0 := n15_
              clear n0_ n1_ n2_ n3_ n4_ n5_ n6_ n7_ n8_ n9_ n10_ n11_ n12_ n13_ n14_ n15_
              clear hb hbox hg
              refine hK.out _ _ ⟨bc0 BK148, bc1 BK148, bc2 BK148⟩ (fun hHeld => ?_)
              clear hK K
              refine norm_ (a' := ?_) ?_ ?_
              rotate_left
              ·show Act.put _ (some 8) _ = _
               simp only [Act.put, List.setIfInBounds_toArray, List.set_cons_zero, List.set_cons_succ, i64_w, i32_w]
               rfl
              exact norm_ (by simp only [putAll, Act.put, List.setIfInBounds_toArray, List.set_cons_zero, List.set_cons_succ]) (hCont (gb173) _ ⟨hHeld, (zR HO_149001), (by (with_reducible repeat (first | apply Kd.R_alloc | apply Kd.R_drewN | apply Kd.R_drew)); exact Kd.R_mono HO_149002.out (fun _ hk => hk.2)), (zK BK144), (zK BK148), (zK BK173), GW173.out, GE173.out, NB0_173.out, NB173_0.out, NB144_173.out, NB173_144.out, NB148_173.out, NB173_148.out, (by repeat (first | (with_reducible first | exact HI0.out | apply IsS77.alloc | apply IsS77.drewN | apply IsS77.drew | apply IsS77.set_1 | apply IsS77.set_2 | refine IsS77.far ?_ NB0_144.out _ | refine IsS77.far ?_ NB0_148.out _ | refine IsS77.far ?_ NB0_173.out _) | exact HI0.out)), (by repeat (first | (with_reducible first | exact HK.out | apply KeepBut.set_ | apply keep_drewN | apply keep_drew | apply keep_alloc | refine keep_far ?_ GW144.out _ | refine keep_far ?_ GW148.out _ | refine keep_far ?_ GW173.out _) | exact HK.out)), (by repeat (first | (with_reducible first | exact HB.out | apply below_alloc | apply pw_below_drewN | apply below_drew1 | refine below_set ?_ (IsS77.ge HI0.out) | refine below_set ?_ GE144.out | refine below_set ?_ GE148.out | refine below_set ?_ GE173.out) | exact HB.out))⟩)
             ·skip
              refine box_step ?hg (N := 8) ?hd (cs := #[.int .i64 0, .bool false, .int .i64 0, .int .i64 0]) (t := 54) ?hr ?_; (case hd => rfl); (case hg => rfl); (case hr => first | (go_simp; done) | (go_simp; rfl))
              intro gb173 hg w29 hbox hb
              have n0_ := Aside0.mk (Kd.R_below (zR HO_149001) hb)
              have n1_ := Aside0.mk (Kd.R_below (Kd.R_elderB (zR HO_149002) gb173 (Nat.le_of_eq hg.symm)) hb)
              have n2_ := kB BK144 hb
              have n3_ := kB BK148 hb
              have n4_ := Aside0.mk (IsS77.below (by repeat (first | (with_reducible first | exact HI0.out | apply IsS77.alloc | apply IsS77.drewN | apply IsS77.drew | apply IsS77.set_1 | apply IsS77.set_2 | refine IsS77.far ?_ NB0_144.out _ | refine IsS77.far ?_ NB0_148.out _) | exact HI0.out)) hb)
              have n5_ := Aside0.mk (KeepBut.trans (by repeat (first | (with_reducible first | exact HK.out | apply KeepBut.set_ | apply keep_drewN | apply keep_drew | apply keep_alloc | refine keep_far ?_ GW144.out _ | refine keep_far ?_ GW148.out _) | exact HK.out)) (KeepBut.of_below hb g none) (.inl rfl))
              have n6_ := Aside0.mk (below_step (by repeat (first | (with_reducible first | exact HB.out | apply below_alloc | apply pw_below_drewN | apply below_drew1 | refine below_set ?_ (IsS77.ge HI0.out) | refine below_set ?_ GE144.out | refine below_set ?_ GE148.out) | exact HB.out)) hb)
              have n7_ := Aside0.mk (hbox)
              have n8_ := Aside0.mk ((by rw [hg]; exact (keep_size (w := w) (g := g) (row := none) (by repeat (first | (with_reducible first | exact HK.out | apply KeepBut.set_ | apply keep_drewN | apply keep_drew | apply keep_alloc | refine keep_far ?_ GW144.out _ | refine keep_far ?_ GW148.out _) | exact HK.out))) : w.heap.size ≤ gb173))
              have n9_ := Aside0.mk ((Nat.le_trans HW0.out (by rw [hg]; exact (keep_size (w := w) (g := g) (row := none) (by repeat (first | (with_reducible first | exact HK.out | apply KeepBut.set_ | apply keep_drewN | apply keep_drew | apply keep_alloc | refine keep_far ?_ GW144.out _ | refine keep_far ?_ GW148.out _) | exact HK.out))) : w.heap.size ≤ gb173) : w0.heap.size ≤ gb173))
              have n10_ := Aside0.mk ((by rw [hg]; exact Nat.ne_of_lt (blk_lt (g := gb144) (o := .cells #[.int .i64 0, .slice none 0 0, .slice none 0 0] 29 (0, 0)) (zK BK144)) : gb144 ≠ gb173))
              have n11_ := Aside0.mk ((by rw [hg]; exact Nat.ne_of_gt (blk_lt (g := gb144) (o := .cells #[.int .i64 0, .slice none 0 0, .slice none 0 0] 29 (0, 0)) (zK BK144)) : gb173 ≠ gb144))
              have n12_ := Aside0.mk ((by rw [hg]; exact Nat.ne_of_lt (blk_lt (g := gb148) (o := .cells #[.int .i64 (wrap64 (1 + t145)), u149001, u149002] 29 (0, 0)) (zK BK148)) : gb148 ≠ gb173))
              have n13_ := Aside0.mk ((by rw [hg]; exact Nat.ne_of_gt (blk_lt (g := gb148) (o := .cells #[.int .i64 (wrap64 (1 + t145)), u149001, u149002] 29 (0, 0)) (zK BK148)) : gb173 ≠ gb148))
              have n14_ := Aside0.mk ((by rw [hg]; exact Nat.ne_of_lt (IsS77.lt (show IsS77 w0 _ g s0_0 t168 t169 from by repeat (first | (with_reducible first | exact HI0.out | apply IsS77.alloc | apply IsS77.drewN | apply IsS77.drew | apply IsS77.set_1 | apply IsS77.set_2 | refine IsS77.far ?_ NB0_144.out _ | refine IsS77.far ?_ NB0_148.out _) | exact HI0.out))) : g ≠ gb173))
              have n15_ := Aside0.mk ((by rw [hg]; exact Nat.ne_of_gt (IsS77.lt (show IsS77 w0 _ g s0_0 t168 t169 from by repeat (first | (with_reducible first | exact HI0.out | apply IsS77.alloc | apply IsS77.drewN | apply IsS77.drew | apply IsS77.set_1 | apply IsS77.set_2 | refine IsS77.far ?_ NB0_144.out _ | refine IsS77.far ?_ NB0_148.out _) | exact HI0.out))) : gb173 ≠ g))
              clear HO_149001
              clear HO_149002
              clear BK144
              clear BK148
              clear HI0
              clear HK
              clear HB
              have HO_149001 := n0_
              have HO_149002 := n1_
              have BK144 := n2_
              have BK148 := n3_
              have HI0 := n4_
              have HK := n5_
              have HB := n6_
              have BK173 := n7_
              have GW173 := n8_
              have GE173 := n9_
              have NB144_173 := n10_
              have NB173_144 := n11_
              have NB148_173 := n12_
              have NB173_148 := n13_
              have NB0_173 := n14_
              have NB173_0 := n15_
              clear n0_ n1_ n2_ n3_ n4_ n5_ n6_ n7_ n8_ n9_ n10_ n11_ n12_ n13_ n14_ n15_
              clear hb hbox hg
              refine hK.out _ _ ⟨bc0 BK148, bc1 BK148, bc2 BK148⟩ (fun hHeld => ?_)
              clear hK K
              refine norm_ (a' := ?_) ?_ ?_
              rotate_left
              ·show Act.put _ (some 8) _ = _
               simp only [Act.put, List.setIfInBounds_toArray, List.set_cons_zero, List.set_cons_succ, i64_w, i32_w]
               rfl
              refine one_ (i := 7) (N := some 40) (bm 11 767) rfl rfl (one_of HT_.out (by kernel_rfl)) (by decide) (fun K hK => ?_)
              refine goes_ Try.func38 (by kernel_rfl) rfl #[.pointer (some ⟨g, 0, none⟩), .int .i64 (wrap64 (1 + t145))] (by rfl) rfl rfl zG ?_
              with_reducible refine (spec_l1Below.calls g s0_0 t168 t169 (wrap64 (1 + t145)) t170 t171 t172 w0 _ ?side1 ?side2 A23.out).mono ?_
              (case side1 => repeat (first | (with_reducible first | exact HI0.out | apply IsS77.alloc | apply IsS77.drewN | apply IsS77.drew | apply IsS77.set_1 | apply IsS77.set_2 | refine IsS77.far ?_ NB0_144.out _ | refine IsS77.far ?_ NB0_148.out _ | refine IsS77.far ?_ NB0_173.out _) | exact HI0.out))
              (case side2 => repeat (first | (with_reducible first | exact HB.out | apply below_alloc | apply pw_below_drewN | apply below_drew1 | refine below_set ?_ (IsS77.ge HI0.out) | refine below_set ?_ GE144.out | refine below_set ?_ GE148.out | refine below_set ?_ GE173.out) | exact HB.out))
              rintro e w30 ⟨rfl, hi, hb, hk⟩
              refine ⟨_, rfl, ?_⟩
              have n0_ := Aside0.mk (Kd.R_mono (Kd.R_keep (IsS77.apart (show IsS77 w0 _ g s0_0 t168 t169 from by repeat (first | (with_reducible first | exact HI0.out | apply IsS77.alloc | apply IsS77.drewN | apply IsS77.drew | apply IsS77.set_1 | apply IsS77.set_2 | refine IsS77.far ?_ NB0_144.out _ | refine IsS77.far ?_ NB0_148.out _ | refine IsS77.far ?_ NB0_173.out _) | exact HI0.out)) (zR HO_149001) (by decide)) hk (fun _ h => h.2)) (fun _ h => h.1))
              have n1_ := Aside0.mk (Kd.R_mono (Kd.R_keep (IsS77.apart (show IsS77 w0 _ g s0_0 t168 t169 from by repeat (first | (with_reducible first | exact HI0.out | apply IsS77.alloc | apply IsS77.drewN | apply IsS77.drew | apply IsS77.set_1 | apply IsS77.set_2 | refine IsS77.far ?_ NB0_144.out _ | refine IsS77.far ?_ NB0_148.out _ | refine IsS77.far ?_ NB0_173.out _) | exact HI0.out)) (zR HO_149002) (by decide)) hk (fun _ h => h.2)) (fun _ h => h.1))
              have n2_ := Aside0.mk (KeepBut.blk hk (g' := gb144) (o := .cells #[.int .i64 0, .slice none 0 0, .slice none 0 0] 29 (0, 0)) (zK BK144) NB144_0.out (by simp))
              have n3_ := Aside0.mk (KeepBut.blk hk (g' := gb148) (o := .cells #[.int .i64 (wrap64 (1 + t145)), u149001, u149002] 29 (0, 0)) (zK BK148) NB148_0.out (by simp))
              have n4_ := Aside0.mk (KeepBut.blk hk (g' := gb173) (o := .cells #[.int .i64 0, .bool false, .int .i64 0, .int .i64 0] 54 (0, 0)) (zK BK173) NB173_0.out (by simp))
              have n5_ := Aside0.mk (KeepBut.trans (by repeat (first | (with_reducible first | exact HK.out | apply KeepBut.set_ | apply keep_drewN | apply keep_drew | apply keep_alloc | refine keep_far ?_ GW144.out _ | refine keep_far ?_ GW148.out _ | refine keep_far ?_ GW173.out _) | exact HK.out)) hk (.inl rfl))
              have n6_ := Aside0.mk (hb)
              have n7_ := Aside0.mk (hi)
              clear HO_149001
              clear HO_149002
              clear BK144
              clear BK148
              clear BK173
              clear HK
              clear HB
              clear HI0
              have HO_149001 := n0_
              have HO_149002 := n1_
              have BK144 := n2_
              have BK148 := n3_
              have BK173 := n4_
              have HK := n5_
              have HB := n6_
              have HI0 := n7_
              clear n0_ n1_ n2_ n3_ n4_ n5_ n6_ n7_
              (try clear hb)
              (try clear hb2)
              (try clear hk)
              (try clear hi)
              refine hK.out _ _ ⟨bc0 BK148, bc1 BK148, bc2 BK148⟩ (fun hHeld => ?_)
              clear hK K
              refine norm_ (a' := ?_) ?_ ?_
              rotate_left
              ·show Act.put _ (some 40) _ = _
               simp only [Act.put, List.setIfInBounds_toArray, List.set_cons_zero, List.set_cons_succ, i64_w, i32_w]
               rfl
              refine pure_ (i := 8) (N := some 41) (v := ?_) (a' := ?_) (bm 11 1023) rfl rfl (any_of HT_.out (by kernel_rfl)) (fun _ _ _ h => h) (Or.inl ⟨by rfl, ?_⟩) ?_ ?_
              rotate_left
              ·intro w'
               go_simp
               with_reducible rfl
              rotate_left
              ·simp only [Act.put, List.setIfInBounds_toArray, List.set_cons_zero, List.set_cons_succ, i64_w, i32_w]
               rfl
              exact norm_ (by simp only [putAll, Act.put, List.setIfInBounds_toArray, List.set_cons_zero, List.set_cons_succ]) (hCont (gb173) _ ⟨hHeld, (zR HO_149001), (by (with_reducible repeat (first | apply Kd.R_alloc | apply Kd.R_drewN | apply Kd.R_drew)); exact Kd.R_mono HO_149002.out (fun _ hk => hk.2)), (zK BK144), (zK BK148), (zK BK173), GW173.out, GE173.out, NB0_173.out, NB173_0.out, NB144_173.out, NB173_144.out, NB148_173.out, NB173_148.out, (by repeat (first | (with_reducible first | exact HI0.out | apply IsS77.alloc | apply IsS77.drewN | apply IsS77.drew | apply IsS77.set_1 | apply IsS77.set_2 | refine IsS77.far ?_ NB0_144.out _ | refine IsS77.far ?_ NB0_148.out _ | refine IsS77.far ?_ NB0_173.out _) | exact HI0.out)), (by repeat (first | (with_reducible first | exact HK.out | apply KeepBut.set_ | apply keep_drewN | apply keep_drew | apply keep_alloc | refine keep_far ?_ GW144.out _ | refine keep_far ?_ GW148.out _ | refine keep_far ?_ GW173.out _) | exact HK.out)), (by repeat (first | (with_reducible first | exact HB.out | apply below_alloc | apply pw_below_drewN | apply below_drew1 | refine below_set ?_ (IsS77.ge HI0.out) | refine below_set ?_ GE144.out | refine below_set ?_ GE148.out | refine below_set ?_ GE173.out) | exact HB.out))⟩)
            ·skip
             refine box_step ?hg (N := 8) ?hd (cs := #[.int .i64 0, .bool false, .int .i64 0, .int .i64 0]) (t := 54) ?hr ?_; (case hd => rfl); (case hg => rfl); (case hr => first | (go_simp; done) | (go_simp; rfl))
             intro gb173 hg w28 hbox hb
             have n0_ := Aside0.mk (Kd.R_below (zR HO_149001) hb)
             have n1_ := Aside0.mk (Kd.R_below (Kd.R_elderB (zR HO_149002) gb173 (Nat.le_of_eq hg.symm)) hb)
             have n2_ := kB BK144 hb
             have n3_ := kB BK148 hb
             have n4_ := Aside0.mk (IsS77.below (by repeat (first | (with_reducible first | exact HI0.out | apply IsS77.alloc | apply IsS77.drewN | apply IsS77.drew | apply IsS77.set_1 | apply IsS77.set_2 | refine IsS77.far ?_ NB0_144.out _ | refine IsS77.far ?_ NB0_148.out _) | exact HI0.out)) hb)
             have n5_ := Aside0.mk (KeepBut.trans (by repeat (first | (with_reducible first | exact HK.out | apply KeepBut.set_ | apply keep_drewN | apply keep_drew | apply keep_alloc | refine keep_far ?_ GW144.out _ | refine keep_far ?_ GW148.out _) | exact HK.out)) (KeepBut.of_below hb g none) (.inl rfl))
             have n6_ := Aside0.mk (below_step (by repeat (first | (with_reducible first | exact HB.out | apply below_alloc | apply pw_below_drewN | apply below_drew1 | refine below_set ?_ (IsS77.ge HI0.out) | refine below_set ?_ GE144.out | refine below_set ?_ GE148.out) | exact HB.out)) hb)
             have n7_ := Aside0.mk (hbox)
             have n8_ := Aside0.mk ((by rw [hg]; exact (keep_size (w := w) (g := g) (row := none) (by repeat (first | (with_reducible first | exact HK.out | apply KeepBut.set_ | apply keep_drewN | apply keep_drew | apply keep_alloc | refine keep_far ?_ GW144.out _ | refine keep_far ?_ GW148.out _) | exact HK.out))) : w.heap.size ≤ gb173))
             have n9_ := Aside0.mk ((Nat.le_trans HW0.out (by rw [hg]; exact (keep_size (w := w) (g := g) (row := none) (by repeat (first | (with_reducible first | exact HK.out | apply KeepBut.set_ | apply keep_drewN | apply keep_drew | apply keep_alloc | refine keep_far ?_ GW144.out _ | refine keep_far ?_ GW148.out _) | exact HK.out))) : w.heap.size ≤ gb173) : w0.heap.size ≤ gb173))
             have n10_ := Aside0.mk ((by rw [hg]; exact Nat.ne_of_lt (blk_lt (g := gb144) (o := .cells #[.int .i64 0, .slice none 0 0, .slice none 0 0] 29 (0, 0)) (zK BK144)) : gb144 ≠ gb173))
             have n11_ := Aside0.mk ((by rw [hg]; exact Nat.ne_of_gt (blk_lt (g := gb144) (o := .cells #[.int .i64 0, .slice none 0 0, .slice none 0 0] 29 (0, 0)) (zK BK144)) : gb173 ≠ gb144))
             have n12_ := Aside0.mk ((by rw [hg]; exact Nat.ne_of_lt (blk_lt (g := gb148) (o := .cells #[.int .i64 (wrap64 (1 + t145)), u149001, u149002] 29 (0, 0)) (zK BK148)) : gb148 ≠ gb173))
             have n13_ := Aside0.mk ((by rw [hg]; exact Nat.ne_of_gt (blk_lt (g := gb148) (o := .cells #[.int .i64 (wrap64 (1 + t145)), u149001, u149002] 29 (0, 0)) (zK BK148)) : gb173 ≠ gb148))
             have n14_ := Aside0.mk ((by rw [hg]; exact Nat.ne_of_lt (IsS77.lt (show IsS77 w0 _ g s0_0 x1001_3 x1002_3 from by repeat (first | (with_reducible first | exact HI0.out | apply IsS77.alloc | apply IsS77.drewN | apply IsS77.drew | apply IsS77.set_1 | apply IsS77.set_2 | refine IsS77.far ?_ NB0_144.out _ | refine IsS77.far ?_ NB0_148.out _) | exact HI0.out))) : g ≠ gb173))
             have n15_ := Aside0.mk ((by rw [hg]; exact Nat.ne_of_gt (IsS77.lt (show IsS77 w0 _ g s0_0 x1001_3 x1002_3 from by repeat (first | (with_reducible first | exact HI0.out | apply IsS77.alloc | apply IsS77.drewN | apply IsS77.drew | apply IsS77.set_1 | apply IsS77.set_2 | refine IsS77.far ?_ NB0_144.out _ | refine IsS77.far ?_ NB0_148.out _) | exact HI0.out))) : gb173 ≠ g))
             clear HO_149001
             clear HO_149002
             clear BK144
             clear BK148
             clear HI0
             clear HK
             clear HB
             have HO_149001 := n0_
             have HO_149002 := n1_
             have BK144 := n2_
             have BK148 := n3_
             have HI0 := n4_
             have HK := n5_
             have HB := n6_
             have BK173 := n7_
             have GW173 := n8_
             have GE173 := n9_
             have NB144_173 := n10_
             have NB173_144 := n11_
             have NB148_173 := n12_
             have NB173_148 := n13_
             have NB0_173 := n14_
             have NB173_0 := n15_
             clear n0_ n1_ n2_ n3_ n4_ n5_ n6_ n7_ n8_ n9_ n10_ n11_ n12_ n13_ n14_ n15_
             clear hb hbox hg
             refine hK.out _ _ ⟨bc0 BK148, bc1 BK148, bc2 BK148⟩ (fun hHeld => ?_)
             clear hK K
             refine norm_ (a' := ?_) ?_ ?_
             rotate_left
             ·show Act.put _ (some 8) _ = _
              simp only [Act.put, List.setIfInBounds_toArray, List.set_cons_zero, List.set_cons_succ, i64_w, i32_w]
              rfl
             refine one_ (i := 3) (N := some 36) (bm 11 639) rfl rfl (one_of HT_.out (by kernel_rfl)) (by decide) (fun K hK => ?_)
             refine goes_ Try.func38 (by kernel_rfl) rfl #[.pointer (some ⟨g, 0, none⟩), .int .i64 3] (by rfl) rfl rfl zG ?_
             with_reducible refine (spec_l1Below.calls g s0_0 x1001_3 x1002_3 3 t167 t168 t169 w0 _ ?side1 ?side2 A22.out).mono ?_
             (case side1 => repeat (first | (with_reducible first | exact HI0.out | apply IsS77.alloc | apply IsS77.drewN | apply IsS77.drew | apply IsS77.set_1 | apply IsS77.set_2 | refine IsS77.far ?_ NB0_144.out _ | refine IsS77.far ?_ NB0_148.out _ | refine IsS77.far ?_ NB0_173.out _) | exact HI0.out))
             (case side2 => repeat (first | (with_reducible first | exact HB.out | apply below_alloc | apply pw_below_drewN | apply below_drew1 | refine below_set ?_ (IsS77.ge HI0.out) | refine below_set ?_ GE144.out | refine below_set ?_ GE148.out | refine below_set ?_ GE173.out) | exact HB.out))
             rintro e w29 ⟨rfl, hi, hb, hk⟩
             refine ⟨_, rfl, ?_⟩
             have n0_ := Aside0.mk (Kd.R_mono (Kd.R_keep (IsS77.apart (show IsS77 w0 _ g s0_0 x1001_3 x1002_3 from by repeat (first | (with_reducible first | exact HI0.out | apply IsS77.alloc | apply IsS77.drewN | apply IsS77.drew | apply IsS77.set_1 | apply IsS77.set_2 | refine IsS77.far ?_ NB0_144.out _ | refine IsS77.far ?_ NB0_148.out _ | refine IsS77.far ?_ NB0_173.out _) | exact HI0.out)) (zR HO_149001) (by decide)) hk (fun _ h => h.2)) (fun _ h => h.1))
             have n1_ := Aside0.mk (Kd.R_mono (Kd.R_keep (IsS77.apart (show IsS77 w0 _ g s0_0 x1001_3 x1002_3 from by repeat (first | (with_reducible first | exact HI0.out | apply IsS77.alloc | apply IsS77.drewN | apply IsS77.drew | apply IsS77.set_1 | apply IsS77.set_2 | refine IsS77.far ?_ NB0_144.out _ | refine IsS77.far ?_ NB0_148.out _ | refine IsS77.far ?_ NB0_173.out _) | exact HI0.out)) (zR HO_149002) (by decide)) hk (fun _ h => h.2)) (fun _ h => h.1))
             have n2_ := Aside0.mk (KeepBut.blk hk (g' := gb144) (o := .cells #[.int .i64 0, .slice none 0 0, .slice none 0 0] 29 (0, 0)) (zK BK144) NB144_0.out (by simp))
             have n3_ := Aside0.mk (KeepBut.blk hk (g' := gb148) (o := .cells #[.int .i64 (wrap64 (1 + t145)), u149001, u149002] 29 (0, 0)) (zK BK148) NB148_0.out (by simp))
             have n4_ := Aside0.mk (KeepBut.blk hk (g' := gb173) (o := .cells #[.int .i64 0, .bool false, .int .i64 0, .int .i64 0] 54 (0, 0)) (zK BK173) NB173_0.out (by simp))
             have n5_ := Aside0.mk (KeepBut.trans (by repeat (first | (with_reducible first | exact HK.out | apply KeepBut.set_ | apply keep_drewN | apply keep_drew | apply keep_alloc | refine keep_far ?_ GW144.out _ | refine keep_far ?_ GW148.out _ | refine keep_far ?_ GW173.out _) | exact HK.out)) hk (.inl rfl))
             have n6_ := Aside0.mk (hb)
             have n7_ := Aside0.mk (hi)
             clear HO_149001
             clear HO_149002
             clear BK144
             clear BK148
             clear BK173
             clear HK
             clear HB
             clear HI0
             have HO_149001 := n0_
             have HO_149002 := n1_
             have BK144 := n2_
             have BK148 := n3_
             have BK173 := n4_
             have HK := n5_
             have HB := n6_
             have HI0 := n7_
             clear n0_ n1_ n2_ n3_ n4_ n5_ n6_ n7_
             (try clear hb)
             (try clear hb2)
             (try clear hk)
             (try clear hi)
             refine hK.out _ _ ⟨bc0 BK148, bc1 BK148, bc2 BK148⟩ (fun hHeld => ?_)
             clear hK K
             refine norm_ (a' := ?_) ?_ ?_
             rotate_left
             ·show Act.put _ (some 36) _ = _
              simp only [Act.put, List.setIfInBounds_toArray, List.set_cons_zero, List.set_cons_succ, i64_w, i32_w]
              rfl
             refine one_ (i := 7) (N := some 40) (bm 11 767) rfl rfl (one_of HT_.out (by kernel_rfl)) (by decide) (fun K hK => ?_)
             refine goes_ Try.func38 (by kernel_rfl) rfl #[.pointer (some ⟨g, 0, none⟩), .int .i64 (wrap64 (1 + t145))] (by rfl) rfl rfl zG ?_
             with_reducible refine (spec_l1Below.calls g s0_0 t168 t169 (wrap64 (1 + t145)) t170 t171 t172 w0 _ ?side1 ?side2 A23.out).mono ?_
             (case side1 => repeat (first | (with_reducible first | exact HI0.out | apply IsS77.alloc | apply IsS77.drewN | apply IsS77.drew | apply IsS77.set_1 | apply IsS77.set_2 | refine IsS77.far ?_ NB0_144.out _ | refine IsS77.far ?_ NB0_148.out _ | refine IsS77.far ?_ NB0_173.out _) | exact HI0.out))
             (case side2 => repeat (first | (with_reducible first | exact HB.out | apply below_alloc | apply pw_below_drewN | apply below_drew1 | refine below_set ?_ (IsS77.ge HI0.out) | refine below_set ?_ GE144.out | refine below_set ?_ GE148.out | refine below_set ?_ GE173.out) | exact HB.out))
             rintro e w30 ⟨rfl, hi, hb, hk⟩
             refine ⟨_, rfl, ?_⟩
             have n0_ := Aside0.mk (Kd.R_mono (Kd.R_keep (IsS77.apart (show IsS77 w0 _ g s0_0 t168 t169 from by repeat (first | (with_reducible first | exact HI0.out | apply IsS77.alloc | apply IsS77.drewN | apply IsS77.drew | apply IsS77.set_1 | apply IsS77.set_2 | refine IsS77.far ?_ NB0_144.out _ | refine IsS77.far ?_ NB0_148.out _ | refine IsS77.far ?_ NB0_173.out _) | exact HI0.out)) (zR HO_149001) (by decide)) hk (fun _ h => h.2)) (fun _ h => h.1))
             have n1_ := Aside0.mk (Kd.R_mono (Kd.R_keep (IsS77.apart (show IsS77 w0 _ g s0_0 t168 t169 from by repeat (first | (with_reducible first | exact HI0.out | apply IsS77.alloc | apply IsS77.drewN | apply IsS77.drew | apply IsS77.set_1 | apply IsS77.set_2 | refine IsS77.far ?_ NB0_144.out _ | refine IsS77.far ?_ NB0_148.out _ | refine IsS77.far ?_ NB0_173.out _) | exact HI0.out)) (zR HO_149002) (by decide)) hk (fun _ h => h.2)) (fun _ h => h.1))
             have n2_ := Aside0.mk (KeepBut.blk hk (g' := gb144) (o := .cells #[.int .i64 0, .slice none 0 0, .slice none 0 0] 29 (0, 0)) (zK BK144) NB144_0.out (by simp))
             have n3_ := Aside0.mk (KeepBut.blk hk (g' := gb148) (o := .cells #[.int .i64 (wrap64 (1 + t145)), u149001, u149002] 29 (0, 0)) (zK BK148) NB148_0.out (by simp))
             have n4_ := Aside0.mk (KeepBut.blk hk (g' := gb173) (o := .cells #[.int .i64 0, .bool false, .int .i64 0, .int .i64 0] 54 (0, 0)) (zK BK173) NB173_0.out (by simp))
             have n5_ := Aside0.mk (KeepBut.trans (by repeat (first | (with_reducible first | exact HK.out | apply KeepBut.set_ | apply keep_drewN | apply keep_drew | apply keep_alloc | refine keep_far ?_ GW144.out _ | refine keep_far ?_ GW148.out _ | refine keep_far ?_ GW173.out _) | exact HK.out)) hk (.inl rfl))
             have n6_ := Aside0.mk (hb)
             have n7_ := Aside0.mk (hi)
             clear HO_149001
             clear HO_149002
             clear BK144
             clear BK148
             clear BK173
             clear HK
             clear HB
             clear HI0
             have HO_149001 := n0_
             have HO_149002 := n1_
             have BK144 := n2_
             have BK148 := n3_
             have BK173 := n4_
             have HK := n5_
             have HB := n6_
             have HI0 := n7_
             clear n0_ n1_ n2_ n3_ n4_ n5_ n6_ n7_
             (try clear hb)
             (try clear hb2)
             (try clear hk)
             (try clear hi)
             refine hK.out _ _ ⟨bc0 BK148, bc1 BK148, bc2 BK148⟩ (fun hHeld => ?_)
             clear hK K
             refine norm_ (a' := ?_) ?_ ?_
             rotate_left
             ·show Act.put _ (some 40) _ = _
              simp only [Act.put, List.setIfInBounds_toArray, List.set_cons_zero, List.set_cons_succ, i64_w, i32_w]
              rfl
             refine pure_ (i := 8) (N := some 41) (v := ?_) (a' := ?_) (bm 11 1023) rfl rfl (any_of HT_.out (by kernel_rfl)) (fun _ _ _ h => h) (Or.inl ⟨by rfl, ?_⟩) ?_ ?_
             rotate_left
             ·intro w'
              go_simp
              with_reducible rfl
             rotate_left
             ·simp only [Act.put, List.setIfInBounds_toArray, List.set_cons_zero, List.set_cons_succ, i64_w, i32_w]
              rfl
             exact norm_ (by simp only [putAll, Act.put, List.setIfInBounds_toArray, List.set_cons_zero, List.set_cons_succ]) (hCont (gb173) _ ⟨hHeld, (zR HO_149001), (by (with_reducible repeat (first | apply Kd.R_alloc | apply Kd.R_drewN | apply Kd.R_drew)); exact Kd.R_mono HO_149002.out (fun _ hk => hk.2)), (zK BK144), (zK BK148), (zK BK173), GW173.out, GE173.out, NB0_173.out, NB173_0.out, NB144_173.out, NB173_144.out, NB148_173.out, NB173_148.out, (by repeat (first | (with_reducible first | exact HI0.out | apply IsS77.alloc | apply IsS77.drewN | apply IsS77.drew | apply IsS77.set_1 | apply IsS77.set_2 | refine IsS77.far ?_ NB0_144.out _ | refine IsS77.far ?_ NB0_148.out _ | refine IsS77.far ?_ NB0_173.out _) | exact HI0.out)), (by repeat (first | (with_reducible first | exact HK.out | apply KeepBut.set_ | apply keep_drewN | apply keep_drew | apply keep_alloc | refine keep_far ?_ GW144.out _ | refine keep_far ?_ GW148.out _ | refine keep_far ?_ GW173.out _) | exact HK.out)), (by repeat (first | (with_reducible first | exact HB.out | apply below_alloc | apply pw_below_drewN | apply below_drew1 | refine below_set ?_ (IsS77.ge HI0.out) | refine below_set ?_ GE144.out | refine below_set ?_ GE148.out | refine below_set ?_ GE173.out) | exact HB.out))⟩)
           rintro gb173 w31 ⟨hS_, h0_, h1_, h2_, h3_, h4_, h5_, h6_, h7_, h8_, h9_, h10_, h11_, h12_, h13_, h14_, h15_⟩
           have n0_ : Aside0 (Kd.R Kd.bool 4 w31 w.heap.size (fun _ => True) u149001 x149001_1) := ⟨h0_⟩
           have n1_ : Aside0 (Kd.R k54 54 w31 w.heap.size (fun k_ => k_ ≠ gb173) u149002 x149002_3) := ⟨h1_⟩
           have n2_ : Aside0 (w31.heap[gb144]? = some (.cells #[.int .i64 0, .slice none 0 0, .slice none 0 0] 29 (0, 0))) := ⟨h2_⟩
           have n3_ : Aside0 (w31.heap[gb148]? = some (.cells #[.int .i64 (wrap64 (1 + t145)), u149001, u149002] 29 (0, 0))) := ⟨h3_⟩
           have n4_ : Aside0 (w31.heap[gb173]? = some (.cells #[.int .i64 0, .bool false, .int .i64 0, .int .i64 0] 54 (0, 0))) := ⟨h4_⟩
           have n5_ : Aside0 (w.heap.size ≤ gb173) := ⟨h5_⟩
           have n6_ : Aside0 (w0.heap.size ≤ gb173) := ⟨h6_⟩
           have n7_ : Aside0 (g ≠ gb173) := ⟨h7_⟩
           have n8_ : Aside0 (gb173 ≠ g) := ⟨h8_⟩
           have n9_ : Aside0 (gb144 ≠ gb173) := ⟨h9_⟩
           have n10_ : Aside0 (gb173 ≠ gb144) := ⟨h10_⟩
           have n11_ : Aside0 (gb148 ≠ gb173) := ⟨h11_⟩
           have n12_ : Aside0 (gb173 ≠ gb148) := ⟨h12_⟩
           have n13_ : Aside0 (IsS77 w0 w31 g s0_0 t171 t172) := ⟨h13_⟩
           have n14_ : Aside0 (KeepBut w w31 g none) := ⟨h14_⟩
           have n15_ : Aside0 (Below w0.heap.size w0 w31) := ⟨h15_⟩
           clear HO_149001
           clear HO_149002
           clear BK144
           clear BK148
           clear HI0
           clear HK
           clear HB
           clear h0_ h1_ h2_ h3_ h4_ h5_ h6_ h7_ h8_ h9_ h10_ h11_ h12_ h13_ h14_ h15_
           have HO_149001 := n0_
           have HO_149002 := n1_
           have BK144 := n2_
           have BK148 := n3_
           have BK173 := n4_
           have GW173 := n5_
           have GE173 := n6_
           have NB0_173 := n7_
           have NB173_0 := n8_
           have NB144_173 := n9_
           have NB173_144 := n10_
           have NB148_173 := n11_
           have NB173_148 := n12_
           have HI0 := n13_
           have HK := n14_
           have HB := n15_
           clear n0_ n1_ n2_ n3_ n4_ n5_ n6_ n7_ n8_ n9_ n10_ n11_ n12_ n13_ n14_ n15_
           have hHeld : w31.cell? ⟨gb148, 0, none⟩ = some (.int .i64 (wrap64 (1 + t145))) ∧ w31.cell? ⟨gb148, 1, none⟩ = some (u149001) ∧ w31.cell? ⟨gb148, 2, none⟩ = some (u149002) := hS_
           refine norm_ (a' := ?_) ?_ ?_
           rotate_left
           ·simp only [putAll, Act.put, List.setIfInBounds_toArray, List.set_cons_zero, List.set_cons_succ]
            rfl
           refine one_ (i := 10) (N := none) (bm 11 2047) rfl rfl (one_of HT_.out (by kernel_rfl)) (by decide) (fun K hK => ?_)
           have hs32 : w31.cell? ⟨gb173, 0, none⟩ = some (.int .i64 0) := bc0 BK173
           have hfs32 := bf BK173 0
           have hns32_0 := NB144_173.out
           have hns32_1 := NB148_173.out
           have hms32_0 := NB173_144.out
           have hms32_1 := NB173_148.out
           have hs33 : w31.cell? ⟨gb173, 1, none⟩ = some (.bool false) := bc1 BK173
           have hfs33 := bf BK173 1
           have hns33_0 := NB144_173.out
           have hns33_1 := NB148_173.out
           have hms33_0 := NB173_144.out
           have hms33_1 := NB173_148.out
           have hs34 : w31.cell? ⟨gb173, 2, none⟩ = some (.int .i64 0) := bc2 BK173
           have hfs34 := bf BK173 2
           have hns34_0 := NB144_173.out
           have hns34_1 := NB148_173.out
           have hms34_0 := NB173_144.out
           have hms34_1 := NB173_148.out
           have hs35 : w31.cell? ⟨gb173, 3, none⟩ = some (.int .i64 0) := bc3 BK173
           have hfs35 := bf BK173 3
           have hns35_0 := NB144_173.out
           have hns35_1 := NB148_173.out
           have hms35_0 := NB173_144.out
           have hms35_1 := NB173_148.out
           refine skip_ (w1 := ?_) (by rfl) rfl ?_ ?_
           rotate_left
           ·go_simp
            rfl
           refine hK.out _ _ ⟨((cell_far (p := ⟨gb173, _, none⟩) NB148_173.out _).trans (((cell_far (p := ⟨gb173, _, none⟩) NB148_173.out _).trans (((cell_far (p := ⟨gb173, _, none⟩) NB148_173.out _).trans (((cell_far (p := ⟨gb173, _, none⟩) NB148_173.out _).trans (hHeld.1)))))))), ((cell_far (p := ⟨gb173, _, none⟩) NB148_173.out _).trans (((cell_far (p := ⟨gb173, _, none⟩) NB148_173.out _).trans (((cell_far (p := ⟨gb173, _, none⟩) NB148_173.out _).trans (((cell_far (p := ⟨gb173, _, none⟩) NB148_173.out _).trans (hHeld.2.1)))))))), ((cell_far (p := ⟨gb173, _, none⟩) NB148_173.out _).trans (((cell_far (p := ⟨gb173, _, none⟩) NB148_173.out _).trans (((cell_far (p := ⟨gb173, _, none⟩) NB148_173.out _).trans (((cell_far (p := ⟨gb173, _, none⟩) NB148_173.out _).trans (hHeld.2.2))))))))⟩ (fun hHeld => ?_)
           clear hK K
           refine done_ (done_of HT_.out (by kernel_rfl)) ?_
           try clear hHeld
           have n0_ : Aside0 (Kd.R Kd.bool 4 ((((w31.setCell ⟨gb173, 0, none⟩ (.int .i64 x4_1)).setCell ⟨gb173, 1, none⟩ (.bool t149)).setCell ⟨gb173, 2, none⟩ (.int .i64 t167)).setCell ⟨gb173, 3, none⟩ (.int .i64 t170)) w.heap.size (fun _ => True) u149001 x149001_1) := ⟨by (with_reducible repeat (first | apply Kd.R_alloc | apply Kd.R_drewN | apply Kd.R_drew)); exact Kd.R_mono (Kd.R_far (p := ⟨gb173, 3, none⟩) (Kd.R_far (p := ⟨gb173, 2, none⟩) (Kd.R_far (p := ⟨gb173, 1, none⟩) (Kd.R_far (p := ⟨gb173, 0, none⟩) (Kd.R_types HO_149001.out BK173.out (by decide)) (fun _ hk => hk.2) (.int .i64 x4_1)) (fun _ hk => hk.2) (.bool t149)) (fun _ hk => hk.2) (.int .i64 t167)) (fun _ hk => hk.2) (.int .i64 t170)) (fun _ hk => trivial)⟩
           have n1_ : Aside0 (Kd.R k54 54 ((((w31.setCell ⟨gb173, 0, none⟩ (.int .i64 x4_1)).setCell ⟨gb173, 1, none⟩ (.bool t149)).setCell ⟨gb173, 2, none⟩ (.int .i64 t167)).setCell ⟨gb173, 3, none⟩ (.int .i64 t170)) w.heap.size (fun k_ => k_ ≠ gb173) u149002 x149002_3) := ⟨by (with_reducible repeat (first | apply Kd.R_alloc | apply Kd.R_drewN | apply Kd.R_drew)); exact Kd.R_mono (Kd.R_far (p := ⟨gb173, 3, none⟩) (Kd.R_far (p := ⟨gb173, 2, none⟩) (Kd.R_far (p := ⟨gb173, 1, none⟩) (Kd.R_far (p := ⟨gb173, 0, none⟩) (Kd.R_mono HO_149002.out (fun k_ hk => (⟨hk, hk⟩ : _ ∧ k_ ≠ gb173))) (fun _ hk => hk.2) (.int .i64 x4_1)) (fun _ hk => hk.2) (.bool t149)) (fun _ hk => hk.2) (.int .i64 t167)) (fun _ hk => hk.2) (.int .i64 t170)) (fun _ hk => hk.1)⟩
           have n2_ : Aside0 (((((w31.setCell ⟨gb173, 0, none⟩ (.int .i64 x4_1)).setCell ⟨gb173, 1, none⟩ (.bool t149)).setCell ⟨gb173, 2, none⟩ (.int .i64 t167)).setCell ⟨gb173, 3, none⟩ (.int .i64 t170)).heap[gb144]? = some (.cells #[.int .i64 0, .slice none 0 0, .slice none 0 0] 29 (0, 0))) := ⟨by (with_reducible repeat (first | refine blk_drewN ?_ _ | refine blk_drew ?_ | refine blk_alloc ?_ _)); refine blk_far ?_ NB144_173.out _; (with_reducible repeat (first | refine blk_drewN ?_ _ | refine blk_drew ?_ | refine blk_alloc ?_ _)); refine blk_far ?_ NB144_173.out _; (with_reducible repeat (first | refine blk_drewN ?_ _ | refine blk_drew ?_ | refine blk_alloc ?_ _)); refine blk_far ?_ NB144_173.out _; (with_reducible repeat (first | refine blk_drewN ?_ _ | refine blk_drew ?_ | refine blk_alloc ?_ _)); refine blk_far ?_ NB144_173.out _; (with_reducible repeat (first | refine blk_drewN ?_ _ | refine blk_drew ?_ | refine blk_alloc ?_ _)); exact BK144.out⟩
           have n3_ : Aside0 (((((w31.setCell ⟨gb173, 0, none⟩ (.int .i64 x4_1)).setCell ⟨gb173, 1, none⟩ (.bool t149)).setCell ⟨gb173, 2, none⟩ (.int .i64 t167)).setCell ⟨gb173, 3, none⟩ (.int .i64 t170)).heap[gb148]? = some (.cells #[.int .i64 (wrap64 (1 + t145)), u149001, u149002] 29 (0, 0))) := ⟨by (with_reducible repeat (first | refine blk_drewN ?_ _ | refine blk_drew ?_ | refine blk_alloc ?_ _)); refine blk_far ?_ NB148_173.out _; (with_reducible repeat (first | refine blk_drewN ?_ _ | refine blk_drew ?_ | refine blk_alloc ?_ _)); refine blk_far ?_ NB148_173.out _; (with_reducible repeat (first | refine blk_drewN ?_ _ | refine blk_drew ?_ | refine blk_alloc ?_ _)); refine blk_far ?_ NB148_173.out _; (with_reducible repeat (first | refine blk_drewN ?_ _ | refine blk_drew ?_ | refine blk_alloc ?_ _)); refine blk_far ?_ NB148_173.out _; (with_reducible repeat (first | refine blk_drewN ?_ _ | refine blk_drew ?_ | refine blk_alloc ?_ _)); exact BK148.out⟩
           have n4_ : Aside0 (((((w31.setCell ⟨gb173, 0, none⟩ (.int .i64 x4_1)).setCell ⟨gb173, 1, none⟩ (.bool t149)).setCell ⟨gb173, 2, none⟩ (.int .i64 t167)).setCell ⟨gb173, 3, none⟩ (.int .i64 t170)).heap[gb173]? = some (.cells #[.int .i64 x4_1, .bool t149, .int .i64 t167, .int .i64 t170] 54 (0, 0))) := ⟨by (with_reducible repeat (first | refine blk_drewN ?_ _ | refine blk_drew ?_ | refine blk_alloc ?_ _)); refine blk_put (cs := #[.int .i64 x4_1, .bool t149, .int .i64 t167, .int .i64 0]) ?_ 3 _ rfl; (with_reducible repeat (first | refine blk_drewN ?_ _ | refine blk_drew ?_ | refine blk_alloc ?_ _)); refine blk_put (cs := #[.int .i64 x4_1, .bool t149, .int .i64 0, .int .i64 0]) ?_ 2 _ rfl; (with_reducible repeat (first | refine blk_drewN ?_ _ | refine blk_drew ?_ | refine blk_alloc ?_ _)); refine blk_put (cs := #[.int .i64 x4_1, .bool false, .int .i64 0, .int .i64 0]) ?_ 1 _ rfl; (with_reducible repeat (first | refine blk_drewN ?_ _ | refine blk_drew ?_ | refine blk_alloc ?_ _)); refine blk_put (cs := #[.int .i64 0, .bool false, .int .i64 0, .int .i64 0]) ?_ 0 _ rfl; (with_reducible repeat (first | refine blk_drewN ?_ _ | refine blk_drew ?_ | refine blk_alloc ?_ _)); exact BK173.out⟩
           have n5_ : Aside0 (IsS77 w0 ((((w31.setCell ⟨gb173, 0, none⟩ (.int .i64 x4_1)).setCell ⟨gb173, 1, none⟩ (.bool t149)).setCell ⟨gb173, 2, none⟩ (.int .i64 t167)).setCell ⟨gb173, 3, none⟩ (.int .i64 t170)) g s0_0 t171 t172) := ⟨by repeat (first | (with_reducible first | exact HI0.out | apply IsS77.alloc | apply IsS77.drewN | apply IsS77.drew | apply IsS77.set_1 | apply IsS77.set_2 | refine IsS77.far ?_ NB0_144.out _ | refine IsS77.far ?_ NB0_148.out _ | refine IsS77.far ?_ NB0_173.out _) | exact HI0.out)⟩
           have n6_ : Aside0 (KeepBut w ((((w31.setCell ⟨gb173, 0, none⟩ (.int .i64 x4_1)).setCell ⟨gb173, 1, none⟩ (.bool t149)).setCell ⟨gb173, 2, none⟩ (.int .i64 t167)).setCell ⟨gb173, 3, none⟩ (.int .i64 t170)) g none) := ⟨by repeat (first | (with_reducible first | exact HK.out | apply KeepBut.set_ | apply keep_drewN | apply keep_drew | apply keep_alloc | refine keep_far ?_ GW144.out _ | refine keep_far ?_ GW148.out _ | refine keep_far ?_ GW173.out _) | exact HK.out)⟩
           have n7_ : Aside0 (Below w0.heap.size w0 ((((w31.setCell ⟨gb173, 0, none⟩ (.int .i64 x4_1)).setCell ⟨gb173, 1, none⟩ (.bool t149)).setCell ⟨gb173, 2, none⟩ (.int .i64 t167)).setCell ⟨gb173, 3, none⟩ (.int .i64 t170))) := ⟨by repeat (first | (with_reducible first | exact HB.out | apply below_alloc | apply pw_below_drewN | apply below_drew1 | refine below_set ?_ (IsS77.ge HI0.out) | refine below_set ?_ GE144.out | refine below_set ?_ GE148.out | refine below_set ?_ GE173.out) | exact HB.out)⟩
           (try clear HO_149001)
           (try clear HO_149002)
           (try clear BK144)
           (try clear BK148)
           (try clear BK173)
           (try clear HI0)
           (try clear HK)
           (try clear HB)
           generalize ((((w31.setCell ⟨gb173, 0, none⟩ (.int .i64 x4_1)).setCell ⟨gb173, 1, none⟩ (.bool t149)).setCell ⟨gb173, 2, none⟩ (.int .i64 t167)).setCell ⟨gb173, 3, none⟩ (.int .i64 t170)) = w36 at n0_ n1_ n2_ n3_ n4_ n5_ n6_ n7_ ⊢
           have HO_149001 := n0_
           have HO_149002 := n1_
           have BK144 := n2_
           have BK148 := n3_
           have BK173 := n4_
           have HI0 := n5_
           have HK := n6_
           have HB := n7_
           clear n0_ n1_ n2_ n3_ n4_ n5_ n6_ n7_
           have hnb37 := NB148_144.out
           have hnc37 := NB144_148.out
           have hnb38 := NB148_173.out
           have hnc38 := NB173_148.out
           have hnb39 := NB148_0.out
           have hnc39 := NB0_148.out
           have hcz40_0 := bc0 BK148
           have hcz40_1 := bc1 BK148
           have hcz40_2 := bc2 BK148
           have hfz40_0 := bf BK148 0
           have hfz40_1 := bf BK148 1
           have hfz40_2 := bf BK148 2
           have hnb41 := NB173_144.out
           have hnc41 := NB144_173.out
           have hnb42 := NB173_0.out
           have hnc42 := NB0_173.out
           have hcz43_0 := bc0 BK173
           have hcz43_1 := bc1 BK173
           have hcz43_2 := bc2 BK173
           have hcz43_3 := bc3 BK173
           have hfz43_0 := bf BK173 0
           have hfz43_1 := bf BK173 1
           have hfz43_2 := bf BK173 2
           have hfz43_3 := bf BK173 3
           obtain ⟨Ao44, co44, eo44⟩ := Kd.R_slice HO_149001.out
           subst eo44
           obtain ⟨Ao45, co45, eo45⟩ := Kd.R_slice HO_149002.out
           subst eo45
           try go_wp2_with (first | ((with_reducible refine gate_callee (f := 49) rfl ?_); refine goesL_ (some 47) rfl rfl Try.func49 (by kernel_rfl) rfl #[.agg #[.int .i64 (wrap64 (1 + t145)), .slice Ao44 x149001_1.length co44, .slice Ao45 x149002_3.length co45], .int .i64 x4_1, .bool t149, .int .i64 t167] rfl zG ?_; (with_reducible refine (spec_MoveOf.calls k3 (wrap64 (1 + t145)) _ _ x149001_1 _ _ x149002_3 x4_1 t149 t167 t174 _ ?side1 ?side2 ?side3 ?side4 A24.out).mono ?_); (case side1 => repeat (first | exact (Kd.R_reads' HO_149001.out).2.2 | (with_reducible refine Kd.C_alloc ?_ _) | (with_reducible refine Kd.C_drewN ?_ _) | (with_reducible refine Kd.C_drew ?_))); (case side2 => exact (Kd.R_reads' HO_149001.out).2.1); (case side3 => repeat (first | exact (Kd.R_reads' HO_149002.out).2.2 | (with_reducible refine Kd.C_alloc ?_ _) | (with_reducible refine Kd.C_drewN ?_ _) | (with_reducible refine Kd.C_drew ?_))); (case side4 => exact (Kd.R_reads' HO_149002.out).2.1); rintro e w46 ⟨rfl, hb⟩; refine ⟨_, rfl, ?_⟩; have n0_ := Aside0.mk (Kd.R_below (zR HO_149001) hb); have n1_ := Aside0.mk (Kd.R_below (zR HO_149002) hb); have n2_ := kB BK144 hb; have n3_ := kB BK148 hb; have n4_ := Aside0.mk (IsS77.below (by repeat (first | (with_reducible first | exact HI0.out | apply IsS77.alloc | apply IsS77.drewN | apply IsS77.drew | apply IsS77.set_1 | apply IsS77.set_2 | refine IsS77.far ?_ NB0_144.out _ | refine IsS77.far ?_ NB0_148.out _ | refine IsS77.far ?_ NB0_173.out _) | exact HI0.out)) hb); have n5_ := kB BK173 hb; have n6_ := Aside0.mk (KeepBut.trans (by repeat (first | (with_reducible first | exact HK.out | apply KeepBut.set_ | apply keep_drewN | apply keep_drew | apply keep_alloc | refine keep_far ?_ GW144.out _ | refine keep_far ?_ GW148.out _ | refine keep_far ?_ GW173.out _) | exact HK.out)) (KeepBut.of_below hb g none) (.inl rfl)); have n7_ := Aside0.mk (below_step (by repeat (first | (with_reducible first | exact HB.out | apply below_alloc | apply pw_below_drewN | apply below_drew1 | refine below_set ?_ (IsS77.ge HI0.out) | refine below_set ?_ GE144.out | refine below_set ?_ GE148.out | refine below_set ?_ GE173.out) | exact HB.out)) hb); clear HO_149001; clear HO_149002; clear BK144; clear BK148; clear HI0; clear BK173; clear HK; clear HB; have HO_149001 := n0_; have HO_149002 := n1_; have BK144 := n2_; have BK148 := n3_; have HI0 := n4_; have BK173 := n5_; have HK := n6_; have HB := n7_; clear n0_ n1_ n2_ n3_ n4_ n5_ n6_ n7_; (try clear hb); have hcz47_0 := bc0 BK148; have hcz47_1 := bc1 BK148; have hcz47_2 := bc2 BK148; have hfz47_0 := bf BK148 0; have hfz47_1 := bf BK148 1; have hfz47_2 := bf BK148 2; have hcz48_0 := bc0 BK173; have hcz48_1 := bc1 BK173; have hcz48_2 := bc2 BK173; have hcz48_3 := bc3 BK173; have hfz48_0 := bf BK173 0; have hfz48_1 := bf BK173 1; have hfz48_2 := bf BK173 2; have hfz48_3 := bf BK173 3) | ((with_reducible refine gate_builtin (b := .append) (xs := #[.tmp 50, .tmp 52]) rfl ?_); at_builtin; refine Kd.R_append k54 w.heap.size rfl (.tmp 50) (.tmp 52) 27 54 (.agg #[(.int .i64 0), (.bool false), (.int .i64 0), (.int .i64 0)]) 32 rfl Try.underlying27 info54 rfl (by decide) (by omega) (.slice Ao45 x149002_3.length co45) x149002_3 (⟨x4_1, t149, t167, t170⟩ : S54) [.int .i64 x4_1, .bool t149, .int .i64 t167, .int .i64 t170] (fun k_ => k_ ≠ gb173) (fun _ => False) rfl rfl ?aP (fun _ hk => hk.elim) ?aF ?aO (Below.refl _ _) ?aS ?aL ?_; (case aP => exact k54_mkM _ _ _ (⟨x4_1, t149, t167, t170⟩ : S54)); (case aF => exact (fun k_ hk => Kd.freshB (g := gb173) (o := .cells #[.int .i64 x4_1, .bool t149, .int .i64 t167, .int .i64 t170] 54 (0, 0)) (zK BK173) k_ hk)); (case aO => exact (zR HO_149002)); (case aS => exact (keep_size (w := w) (g := g) (row := none) (by repeat (first | (with_reducible first | exact HK.out | apply KeepBut.set_ | apply keep_drewN | apply keep_drew | apply keep_alloc | refine keep_far ?_ GW144.out _ | refine keep_far ?_ GW148.out _ | refine keep_far ?_ GW173.out _) | exact HK.out)))); (case aL => have := LMc26.out; omega); intro v176 w49 ho hb hg hat; rw [← Ny175.out] at ho; have n0_ := Aside0.mk (Kd.R_over' (zR HO_149001) (Kd.R_typed (zR HO_149002)) (by decide) hg); have n1_ := Aside0.mk (blk_grown (g := gb144) (o := .cells #[.int .i64 0, .slice none 0 0, .slice none 0 0] 29 (0, 0)) (zK BK144) hg (Kd.R_ne HO_149002.out BK144.out (by decide))); have n2_ := Aside0.mk (blk_grown (g := gb148) (o := .cells #[.int .i64 (wrap64 (1 + t145)), .slice Ao44 x149001_1.length co44, .slice Ao45 x149002_3.length co45] 29 (0, 0)) (zK BK148) hg (Kd.R_ne HO_149002.out BK148.out (by decide))); have n3_ := Aside0.mk (IsS77.grown (by repeat (first | (with_reducible first | exact HI0.out | apply IsS77.alloc | apply IsS77.drewN | apply IsS77.drew | apply IsS77.set_1 | apply IsS77.set_2 | refine IsS77.far ?_ NB0_144.out _ | refine IsS77.far ?_ NB0_148.out _ | refine IsS77.far ?_ NB0_173.out _) | exact HI0.out)) hg (IsS77.own_ne HI0.out HO_149002.out (by decide))); have n4_ := Aside0.mk (blk_grown (g := gb173) (o := .cells #[.int .i64 x4_1, .bool t149, .int .i64 t167, .int .i64 t170] 54 (0, 0)) (zK BK173) hg (Kd.R_away HO_149002.out (fun _ hk => hk))); have n5_ := Aside0.mk (below_weaken (by repeat (first | (with_reducible first | exact HB.out | apply below_alloc | apply pw_below_drewN | apply below_drew1 | refine below_set ?_ (IsS77.ge HI0.out) | refine below_set ?_ GE144.out | refine below_set ?_ GE148.out | refine below_set ?_ GE173.out) | exact HB.out)) HL.out hb); have n6_ := Aside0.mk (KeepBut.trans (by repeat (first | (with_reducible first | exact HK.out | apply KeepBut.set_ | apply keep_drewN | apply keep_drew | apply keep_alloc | refine keep_far ?_ GW144.out _ | refine keep_far ?_ GW148.out _ | refine keep_far ?_ GW173.out _) | exact HK.out)) (KeepBut.of_grown hg g) (Kd.R_base2 HO_149002.out)); have n7_ := Aside0.mk (ho); clear HO_149001; clear BK144; clear BK148; clear HI0; clear BK173; clear HB; clear HK; clear HO_149002; have HO_149001 := n0_; have BK144 := n1_; have BK148 := n2_; have HI0 := n3_; have BK173 := n4_; have HB := n5_; have HK := n6_; have HO177 := n7_; clear n0_ n1_ n2_ n3_ n4_ n5_ n6_ n7_; clear ho hb hg hat; obtain ⟨Ao50, co50, eo50⟩ := Kd.R_slice HO177.out; subst eo50; have hcz51_0 := bc0 BK148; have hcz51_1 := bc1 BK148; have hcz51_2 := bc2 BK148; have hfz51_0 := bf BK148 0; have hfz51_1 := bf BK148 1; have hfz51_2 := bf BK148 2))
           go_roundg k3
           case measure => have := HK1.out; have := HJ11.out; have := HK3.out; omega
           case rel => exact ⟨(wrap64 (x7_3 + 1)), (t171), (t172), (y175), (.slice Ao50 y175.length co50), zF, H', ⟨by have := HK1.out; have := HJ11.out; have := HK3.out; omega⟩, ⟨by (with_reducible repeat (first | apply Kd.R_alloc | apply Kd.R_drewN | apply Kd.R_drew)); exact Kd.R_mono (Kd.R_far (p := ⟨gb148, 2, none⟩) (Kd.R_types HO_149001.out BK148.out (by decide)) (fun _ hk => hk.2) (.slice Ao50 y175.length co50)) (fun _ hk => trivial)⟩, ⟨by (with_reducible repeat (first | apply Kd.R_alloc | apply Kd.R_drewN | apply Kd.R_drew)); exact Kd.R_mono (Kd.R_far (p := ⟨gb148, 2, none⟩) (Kd.R_types HO177.out BK148.out (by decide)) (fun _ hk => hk.2) (.slice Ao50 y175.length co50)) (fun _ hk => trivial)⟩, ⟨by (with_reducible repeat (first | refine blk_drewN ?_ _ | refine blk_drew ?_ | refine blk_alloc ?_ _)); refine blk_far ?_ NB144_148.out _; (with_reducible repeat (first | refine blk_drewN ?_ _ | refine blk_drew ?_ | refine blk_alloc ?_ _)); exact BK144.out⟩, ⟨by (with_reducible repeat (first | refine blk_drewN ?_ _ | refine blk_drew ?_ | refine blk_alloc ?_ _)); refine blk_put (cs := #[.int .i64 (wrap64 (1 + t145)), .slice Ao44 x149001_1.length co44, .slice Ao45 x149002_3.length co45]) ?_ 2 _ rfl; (with_reducible repeat (first | refine blk_drewN ?_ _ | refine blk_drew ?_ | refine blk_alloc ?_ _)); exact BK148.out⟩, ⟨by repeat (first | (with_reducible first | exact HI0.out | apply IsS77.alloc | apply IsS77.drewN | apply IsS77.drew | apply IsS77.set_1 | apply IsS77.set_2 | refine IsS77.far ?_ NB0_144.out _ | refine IsS77.far ?_ NB0_148.out _ | refine IsS77.far ?_ NB0_173.out _) | exact HI0.out)⟩, ⟨by repeat (first | (with_reducible first | exact HK.out | apply KeepBut.set_ | apply keep_drewN | apply keep_drew | apply keep_alloc | refine keep_far ?_ GW144.out _ | refine keep_far ?_ GW148.out _ | refine keep_far ?_ GW173.out _) | exact HK.out)⟩, ⟨by repeat (first | (with_reducible first | exact HB.out | apply below_alloc | apply pw_below_drewN | apply below_drew1 | refine below_set ?_ (IsS77.ge HI0.out) | refine below_set ?_ GE144.out | refine below_set ?_ GE148.out | refine below_set ?_ GE173.out) | exact HB.out)⟩⟩
          ·rw [if_neg c26] at H
           exact absurd H (by simp)
         ·rw [if_neg c25] at H
          have c25b0 : decide (t174 < 0) = false := decide_eq_false c25
          clear c25
          have H' := Aside0.mk H
          clear H
          try go_wp2
          have n0_ := Aside0.mk (Kd.R_drew HO_149001.out)
          have n1_ := Aside0.mk (Kd.R_drew HO_149002.out)
          have n2_ := Aside0.mk (blk_drew BK144.out)
          have n3_ := Aside0.mk (blk_drew BK148.out)
          have n4_ := Aside0.mk (IsS77.drew HI0.out)
          have n5_ := Aside0.mk (keep_drew HK.out)
          have n6_ := Aside0.mk (below_drew1 HB.out)
          clear HO_149001
          clear HO_149002
          clear BK144
          clear BK148
          clear HI0
          clear HK
          clear HB
          have HO_149001 := n0_
          have HO_149002 := n1_
          have BK144 := n2_
          have BK148 := n3_
          have HI0 := n4_
          have HK := n5_
          have HB := n6_
          clear n0_ n1_ n2_ n3_ n4_ n5_ n6_
          refine start_ (n := 11) (S := fun w' => w'.cell? ⟨gb148, 0, none⟩ = some (.int .i64 (wrap64 (1 + t145))) ∧ w'.cell? ⟨gb148, 1, none⟩ = some (u149001) ∧ w'.cell? ⟨gb148, 2, none⟩ = some (u149002)) (ds := []) (bm 11 0) (by kernel_rfl) rfl (bm0 _) ⟨bc0 BK148, bc1 BK148, bc2 BK148⟩ (fun hHeld => ?_); refine with_tabW spec_l13Draw.tab12 spec_l13Draw.bits12 (fun HT_ HW_ => ?_)
          generalize wr.drew = w52 at HO_149001 HO_149002 BK144 BK148 HI0 HK HB hHeld ⊢
          refine pure_ (i := 0) (N := some 33) (v := ?_) (a' := ?_) (bm 11 1) rfl rfl (any_of HT_.out (by kernel_rfl)) (fun _ _ _ h => h) (Or.inl ⟨by rfl, ?_⟩) ?_ ?_
          rotate_left
          ·intro w'
           go_simp
           with_reducible rfl
          rotate_left
          ·simp only [Act.put, List.setIfInBounds_toArray, List.set_cons_zero, List.set_cons_succ, i64_w, i32_w]
           rfl
          refine pure_ (i := 1) (N := some 34) (v := ?_) (a' := ?_) (bm 11 3) rfl rfl (any_of HT_.out (by kernel_rfl)) (fun _ _ _ h => h) (Or.inl ⟨by rfl, ?_⟩) ?_ ?_
          rotate_left
          ·intro w'
           go_simp
           with_reducible rfl
          rotate_left
          ·simp only [Act.put, List.setIfInBounds_toArray, List.set_cons_zero, List.set_cons_succ, i64_w, i32_w]
           rfl
          refine pure_ (i := 2) (N := some 35) (v := ?_) (a' := ?_) (bm 11 7) rfl rfl (any_of HT_.out (by kernel_rfl)) (fun _ _ _ h => h) (Or.inl ⟨by rfl, ?_⟩) ?_ ?_
          rotate_left
          ·intro w'
           go_simp
           with_reducible rfl
          rotate_left
          ·simp only [Act.put, List.setIfInBounds_toArray, List.set_cons_zero, List.set_cons_succ, i64_w, i32_w]
           rfl
          refine pure_ (i := 4) (N := some 37) (v := ?_) (a' := ?_) (bm 11 23) rfl rfl (any_of HT_.out (by kernel_rfl)) (fun _ _ _ h => h) (Or.inl ⟨by rfl, ?_⟩) ?_ ?_
          rotate_left
          ·intro w'
           go_simp
           with_reducible rfl
          rotate_left
          ·simp only [Act.put, List.setIfInBounds_toArray, List.set_cons_zero, List.set_cons_succ, i64_w, i32_w]
           rfl
          refine pure_ (i := 5) (N := some 38) (v := ?_) (a' := ?_) (bm 11 55) rfl rfl (any_of HT_.out (by kernel_rfl)) (fun _ _ _ h => h) (Or.inl ⟨by rfl, ?_⟩) ?_ ?_
          rotate_left
          ·intro w'
           go_simp
           with_reducible rfl
          rotate_left
          ·simp only [Act.put, List.setIfInBounds_toArray, List.set_cons_zero, List.set_cons_succ, i64_w, i32_w]
           rfl
          refine take_ (i := 6) (N := some 39) (v := ?_) (a' := ?_) (bm 11 119) rfl rfl (take_ofW HT_.out HW_.out (by kernel_rfl)) (fun _ _ _ h => h) (Or.inl ⟨by rfl, ?_⟩) hHeld ?_ ?_
          rotate_left
          ·rintro w' ⟨s0, s1, s2⟩
           go_simp
           with_reducible rfl
          rotate_left
          ·simp only [Act.put, List.setIfInBounds_toArray, List.set_cons_zero, List.set_cons_succ, i64_w, i32_w]
           rfl
          refine join_ (σ := Nat) 1 (bm 11 1023) (fun s_ => [(36, .int .i64 t167), (40, .int .i64 t170), (8, .pointer (some ⟨s_, 0, none⟩)), (41, .agg #[.int .i64 x4_1, .bool t149, .int .i64 t167, .int .i64 t170])]) (fun s_ w' => (w'.cell? ⟨gb148, 0, none⟩ = some (.int .i64 (wrap64 (1 + t145))) ∧ w'.cell? ⟨gb148, 1, none⟩ = some (u149001) ∧ w'.cell? ⟨gb148, 2, none⟩ = some (u149002)) ∧ (Kd.R Kd.bool 4 w' w.heap.size (fun _ => True) u149001 x149001_1) ∧ (Kd.R k54 54 w' w.heap.size (fun k_ => k_ ≠ s_) u149002 x149002_3) ∧ (w'.heap[gb144]? = some (.cells #[.int .i64 0, .slice none 0 0, .slice none 0 0] 29 (0, 0))) ∧ (w'.heap[gb148]? = some (.cells #[.int .i64 (wrap64 (1 + t145)), u149001, u149002] 29 (0, 0))) ∧ (w'.heap[s_]? = some (.cells #[.int .i64 0, .bool false, .int .i64 0, .int .i64 0] 54 (0, 0))) ∧ (w.heap.size ≤ s_) ∧ (w0.heap.size ≤ s_) ∧ (g ≠ s_) ∧ (s_ ≠ g) ∧ (gb144 ≠ s_) ∧ (s_ ≠ gb144) ∧ (gb148 ≠ s_) ∧ (s_ ≠ gb148) ∧ (IsS77 w0 w' g s0_0 t171 t172) ∧ (KeepBut w w' g none) ∧ (Below w0.heap.size w0 w')) ?_ ?_
          rotate_left
          ·intro hCont
           refine two_ (i := 3) (j := 9) (Ni := some 36) (Nj := some 8) (bm 11 127) (bm 11 631) rfl rfl rfl rfl (two_of HT_.out (by kernel_rfl)) (by decide) (by decide) (fun K hK => ?_) (fun K hK => ?_)
           ·skip
            refine goes_ Try.func38 (by kernel_rfl) rfl #[.pointer (some ⟨g, 0, none⟩), .int .i64 3] (by rfl) rfl rfl zG ?_
            with_reducible refine (spec_l1Below.calls g s0_0 x1001_3 x1002_3 3 t167 t168 t169 w0 _ ?side1 ?side2 A22.out).mono ?_
            (case side1 => repeat (first | (with_reducible first | exact HI0.out | apply IsS77.alloc | apply IsS77.drewN | apply IsS77.drew | apply IsS77.set_1 | apply IsS77.set_2 | refine IsS77.far ?_ NB0_144.out _ | refine IsS77.far ?_ NB0_148.out _) | exact HI0.out))
            (case side2 => repeat (first | (with_reducible first | exact HB.out | apply below_alloc | apply pw_below_drewN | apply below_drew1 | refine below_set ?_ (IsS77.ge HI0.out) | refine below_set ?_ GE144.out | refine below_set ?_ GE148.out) | exact HB.out))
            rintro e w53 ⟨rfl, hi, hb, hk⟩
            refine ⟨_, rfl, ?_⟩
            have n0_ := Aside0.mk (Kd.R_mono (Kd.R_keep (IsS77.apart (show IsS77 w0 _ g s0_0 x1001_3 x1002_3 from by repeat (first | (with_reducible first | exact HI0.out | apply IsS77.alloc | apply IsS77.drewN | apply IsS77.drew | apply IsS77.set_1 | apply IsS77.set_2 | refine IsS77.far ?_ NB0_144.out _ | refine IsS77.far ?_ NB0_148.out _) | exact HI0.out)) (zR HO_149001) (by decide)) hk (fun _ h => h.2)) (fun _ h => h.1))
            have n1_ := Aside0.mk (Kd.R_mono (Kd.R_keep (IsS77.apart (show IsS77 w0 _ g s0_0 x1001_3 x1002_3 from by repeat (first | (with_reducible first | exact HI0.out | apply IsS77.alloc | apply IsS77.drewN | apply IsS77.drew | apply IsS77.set_1 | apply IsS77.set_2 | refine IsS77.far ?_ NB0_144.out _ | refine IsS77.far ?_ NB0_148.out _) | exact HI0.out)) (zR HO_149002) (by decide)) hk (fun _ h => h.2)) (fun _ h => h.1))
            have n2_ := Aside0.mk (KeepBut.blk hk (g' := gb144) (o := .cells #[.int .i64 0, .slice none 0 0, .slice none 0 0] 29 (0, 0)) (zK BK144) NB144_0.out (by simp))
            have n3_ := Aside0.mk (KeepBut.blk hk (g' := gb148) (o := .cells #[.int .i64 (wrap64 (1 + t145)), u149001, u149002] 29 (0, 0)) (zK BK148) NB148_0.out (by simp))
            have n4_ := Aside0.mk (KeepBut.trans (by repeat (first | (with_reducible first | exact HK.out | apply KeepBut.set_ | apply keep_drewN | apply keep_drew | apply keep_alloc | refine keep_far ?_ GW144.out _ | refine keep_far ?_ GW148.out _) | exact HK.out)) hk (.inl rfl))
            have n5_ := Aside0.mk (hb)
            have n6_ := Aside0.mk (hi)
            clear HO_149001
            clear HO_149002
            clear BK144
            clear BK148
            clear HK
            clear HB
            clear HI0
            have HO_149001 := n0_
            have HO_149002 := n1_
            have BK144 := n2_
            have BK148 := n3_
            have HK := n4_
            have HB := n5_
            have HI0 := n6_
            clear n0_ n1_ n2_ n3_ n4_ n5_ n6_
            (try clear hb)
            (try clear hb2)
            (try clear hk)
            (try clear hi)
            refine hK.out _ _ ⟨bc0 BK148, bc1 BK148, bc2 BK148⟩ (fun hHeld => ?_)
            clear hK K
            refine norm_ (a' := ?_) ?_ ?_
            rotate_left
            ·show Act.put _ (some 36) _ = _
             simp only [Act.put, List.setIfInBounds_toArray, List.set_cons_zero, List.set_cons_succ, i64_w, i32_w]
             rfl
            refine two_ (i := 7) (j := 9) (Ni := some 40) (Nj := some 8) (bm 11 255) (bm 11 639) rfl rfl rfl rfl (two_of HT_.out (by kernel_rfl)) (by decide) (by decide) (fun K hK => ?_) (fun K hK => ?_)
            ·skip
             refine goes_ Try.func38 (by kernel_rfl) rfl #[.pointer (some ⟨g, 0, none⟩), .int .i64 (wrap64 (1 + t145))] (by rfl) rfl rfl zG ?_
             with_reducible refine (spec_l1Below.calls g s0_0 t168 t169 (wrap64 (1 + t145)) t170 t171 t172 w0 _ ?side1 ?side2 A23.out).mono ?_
             (case side1 => repeat (first | (with_reducible first | exact HI0.out | apply IsS77.alloc | apply IsS77.drewN | apply IsS77.drew | apply IsS77.set_1 | apply IsS77.set_2 | refine IsS77.far ?_ NB0_144.out _ | refine IsS77.far ?_ NB0_148.out _) | exact HI0.out))
             (case side2 => repeat (first | (with_reducible first | exact HB.out | apply below_alloc | apply pw_below_drewN | apply below_drew1 | refine below_set ?_ (IsS77.ge HI0.out) | refine below_set ?_ GE144.out | refine below_set ?_ GE148.out) | exact HB.out))
             rintro e w54 ⟨rfl, hi, hb, hk⟩
             refine ⟨_, rfl, ?_⟩
             have n0_ := Aside0.mk (Kd.R_mono (Kd.R_keep (IsS77.apart (show IsS77 w0 _ g s0_0 t168 t169 from by repeat (first | (with_reducible first | exact HI0.out | apply IsS77.alloc | apply IsS77.drewN | apply IsS77.drew | apply IsS77.set_1 | apply IsS77.set_2 | refine IsS77.far ?_ NB0_144.out _ | refine IsS77.far ?_ NB0_148.out _) | exact HI0.out)) (zR HO_149001) (by decide)) hk (fun _ h => h.2)) (fun _ h => h.1))
             have n1_ := Aside0.mk (Kd.R_mono (Kd.R_keep (IsS77.apart (show IsS77 w0 _ g s0_0 t168 t169 from by repeat (first | (with_reducible first | exact HI0.out | apply IsS77.alloc | apply IsS77.drewN | apply IsS77.drew | apply IsS77.set_1 | apply IsS77.set_2 | refine IsS77.far ?_ NB0_144.out _ | refine IsS77.far ?_ NB0_148.out _) | exact HI0.out)) (zR HO_149002) (by decide)) hk (fun _ h => h.2)) (fun _ h => h.1))
             have n2_ := Aside0.mk (KeepBut.blk hk (g' := gb144) (o := .cells #[.int .i64 0, .slice none 0 0, .slice none 0 0] 29 (0, 0)) (zK BK144) NB144_0.out (by simp))
             have n3_ := Aside0.mk (KeepBut.blk hk (g' := gb148) (o := .cells #[.int .i64 (wrap64 (1 + t145)), u149001, u149002] 29 (0, 0)) (zK BK148) NB148_0.out (by simp))
             have n4_ := Aside0.mk (KeepBut.trans (by repeat (first | (with_reducible first | exact HK.out | apply KeepBut.set_ | apply keep_drewN | apply keep_drew | apply keep_alloc | refine keep_far ?_ GW144.out _ | refine keep_far ?_ GW148.out _) | exact HK.out)) hk (.inl rfl))
             have n5_ := Aside0.mk (hb)
             have n6_ := Aside0.mk (hi)
             clear HO_149001
             clear HO_149002
             clear BK144
             clear BK148
             clear HK
             clear HB
             clear HI0
             have HO_149001 := n0_
             have HO_149002 := n1_
             have BK144 := n2_
             have BK148 := n3_
             have HK := n4_
             have HB := n5_
             have HI0 := n6_
             clear n0_ n1_ n2_ n3_ n4_ n5_ n6_
             (try clear hb)
             (try clear hb2)
             (try clear hk)
             (try clear hi)
             refine hK.out _ _ ⟨bc0 BK148, bc1 BK148, bc2 BK148⟩ (fun hHeld => ?_)
             clear hK K
             refine norm_ (a' := ?_) ?_ ?_
             rotate_left
             ·show Act.put _ (some 40) _ = _
              simp only [Act.put, List.setIfInBounds_toArray, List.set_cons_zero, List.set_cons_succ, i64_w, i32_w]
              rfl
             refine pure_ (i := 8) (N := some 41) (v := ?_) (a' := ?_) (bm 11 511) rfl rfl (any_of HT_.out (by kernel_rfl)) (fun _ _ _ h => h) (Or.inl ⟨by rfl, ?_⟩) ?_ ?_
             rotate_left
             ·intro w'
              go_simp
              with_reducible rfl
             rotate_left
             ·simp only [Act.put, List.setIfInBounds_toArray, List.set_cons_zero, List.set_cons_succ, i64_w, i32_w]
              rfl
             refine one_ (i := 9) (N := some 8) (bm 11 1023) rfl rfl (one_of HT_.out (by kernel_rfl)) (by decide) (fun K hK => ?_)
             refine box_step ?hg (N := 8) ?hd (cs := #[.int .i64 0, .bool false, .int .i64 0, .int .i64 0]) (t := 54) ?hr ?_; (case hd => rfl); (case hg => rfl); (case hr => first | (go_simp; done) | (go_simp; rfl))
             intro gb173 hg w55 hbox hb
             have n0_ := Aside0.mk (Kd.R_below (zR HO_149001) hb)
             have n1_ := Aside0.mk (Kd.R_below (Kd.R_elderB (zR HO_149002) gb173 (Nat.le_of_eq hg.symm)) hb)
             have n2_ := kB BK144 hb
             have n3_ := kB BK148 hb
             have n4_ := Aside0.mk (IsS77.below (by repeat (first | (with_reducible first | exact HI0.out | apply IsS77.alloc | apply IsS77.drewN | apply IsS77.drew | apply IsS77.set_1 | apply IsS77.set_2 | refine IsS77.far ?_ NB0_144.out _ | refine IsS77.far ?_ NB0_148.out _) | exact HI0.out)) hb)
             have n5_ := Aside0.mk (KeepBut.trans (by repeat (first | (with_reducible first | exact HK.out | apply KeepBut.set_ | apply keep_drewN | apply keep_drew | apply keep_alloc | refine keep_far ?_ GW144.out _ | refine keep_far ?_ GW148.out _) | exact HK.out)) (KeepBut.of_below hb g none) (.inl rfl))
             have n6_ := Aside0.mk (below_step (by repeat (first | (with_reducible first | exact HB.out | apply below_alloc | apply pw_below_drewN | apply below_drew1 | refine below_set ?_ (IsS77.ge HI0.out) | refine below_set ?_ GE144.out | refine below_set ?_ GE148.out) | exact HB.out)) hb)
             have n7_ := Aside0.mk (hbox)
             have n8_ := Aside0.mk ((by rw [hg]; exact (keep_size (w := w) (g := g) (row := none) (by repeat (first | (with_reducible first | exact HK.out | apply KeepBut.set_ | apply keep_drewN | apply keep_drew | apply keep_alloc | refine keep_far ?_ GW144.out _ | refine keep_far ?_ GW148.out _) | exact HK.out))) : w.heap.size ≤ gb173))
             have n9_ := Aside0.mk ((Nat.le_trans HW0.out (by rw [hg]; exact (keep_size (w := w) (g := g) (row := none) (by repeat (first | (with_reducible first | exact HK.out | apply KeepBut.set_ | apply keep_drewN | apply keep_drew | apply keep_alloc | refine keep_far ?_ GW144.out _ | refine keep_far ?_ GW148.out _) | exact HK.out))) : w.heap.size ≤ gb173) : w0.heap.size ≤ gb173))
             have n10_ := Aside0.mk ((by rw [hg]; exact Nat.ne_of_lt (blk_lt (g := gb144) (o := .cells #[.int .i64 0, .slice none 0 0, .slice none 0 0] 29 (0, 0)) (zK BK144)) : gb144 ≠ gb173))
             have n11_ := Aside0.mk ((by rw [hg]; exact Nat.ne_of_gt (blk_lt (g := gb144) (o := .cells #[.int .i64 0, .slice none 0 0, .slice none 0 0] 29 (0, 0)) (zK BK144)) : gb173 ≠ gb144))
             have n12_ := Aside0.mk ((by rw [hg]; exact Nat.ne_of_lt (blk_lt (g := gb148) (o := .cells #[.int .i64 (wrap64 (1 + t145)), u149001, u149002] 29 (0, 0)) (zK BK148)) : gb148 ≠ gb173))
             have n13_ := Aside0.mk ((by rw [hg]; exact Nat.ne_of_gt (blk_lt (g := gb148) (o := .cells #[.int .i64 (wrap64 (1 + t145)), u149001, u149002] 29 (0, 0)) (zK BK148)) : gb173 ≠ gb148))
             have n14_ := Aside0.mk ((by rw [hg]; exact Nat.ne_of_lt (IsS77.lt (show IsS77 w0 _ g s0_0 t171 t172 from by repeat (first | (with_reducible first | exact HI0.out | apply IsS77.alloc | apply IsS77.drewN | apply IsS77.drew | apply IsS77.set_1 | apply IsS77.set_2 | refine IsS77.far ?_ NB0_144.out _ | refine IsS77.far ?_ NB0_148.out _) | exact HI0.out))) : g ≠ gb173))
             have n15_ := Aside0.mk ((by rw [hg]; exact Nat.ne_of_gt (IsS77.lt (show IsS77 w0 _ g s0_0 t171 t172 from by repeat (first | (with_reducible first | exact HI0.out | apply IsS77.alloc | apply IsS77.drewN | apply IsS77.drew | apply IsS77.set_1 | apply IsS77.set_2 | refine IsS77.far ?_ NB0_144.out _ | refine IsS77.far ?_ NB0_148.out _) | exact HI0.out))) : gb173 ≠ g))
             clear HO_149001
             clear HO_149002
             clear BK144
             clear BK148
             clear HI0
             clear HK
             clear HB
             have HO_149001 := n0_
             have HO_149002 := n1_
             have BK144 := n2_
             have BK148 := n3_
             have HI0 := n4_
             have HK := n5_
             have HB := n6_
             have BK173 := n7_
             have GW173 := n8_
             have GE173 := n9_
             have NB144_173 := n10_
             have NB173_144 := n11_
             have NB148_173 := n12_
             have NB173_148 := n13_
             have NB0_173 := n14_
             have NB173_0 := n15_
             clear n0_ n1_ n2_ n3_ n4_ n5_ n6_ n7_ n8_ n9_ n10_ n11_ n12_ n13_ n14_ n15_
             clear hb hbox hg
             refine hK.out _ _ ⟨bc0 BK148, bc1 BK148, bc2 BK148⟩ (fun hHeld => ?_)
             clear hK K
             refine norm_ (a' := ?_) ?_ ?_
             rotate_left
             ·show Act.put _ (some 8) _ = _
              simp only [Act.put, List.setIfInBounds_toArray, List.set_cons_zero, List.set_cons_succ, i64_w, i32_w]
              rfl
             exact norm_ (by simp only [putAll, Act.put, List.setIfInBounds_toArray, List.set_cons_zero, List.set_cons_succ]) (hCont (gb173) _ ⟨hHeld, (zR HO_149001), (by (with_reducible repeat (first | apply Kd.R_alloc | apply Kd.R_drewN | apply Kd.R_drew)); exact Kd.R_mono HO_149002.out (fun _ hk => hk.2)), (zK BK144), (zK BK148), (zK BK173), GW173.out, GE173.out, NB0_173.out, NB173_0.out, NB144_173.out, NB173_144.out, NB148_173.out, NB173_148.out, (by repeat (first | (with_reducible first | exact HI0.out | apply IsS77.alloc | apply IsS77.drewN | apply IsS77.drew | apply IsS77.set_1 | apply IsS77.set_2 | refine IsS77.far ?_ NB0_144.out _ | refine IsS77.far ?_ NB0_148.out _ | refine IsS77.far ?_ NB0_173.out _) | exact HI0.out)), (by repeat (first | (with_reducible first | exact HK.out | apply KeepBut.set_ | apply keep_drewN | apply keep_drew | apply keep_alloc | refine keep_far ?_ GW144.out _ | refine keep_far ?_ GW148.out _ | refine keep_far ?_ GW173.out _) | exact HK.out)), (by repeat (first | (with_reducible first | exact HB.out | apply below_alloc | apply pw_below_drewN | apply below_drew1 | refine below_set ?_ (IsS77.ge HI0.out) | refine below_set ?_ GE144.out | refine below_set ?_ GE148.out | refine below_set ?_ GE173.out) | exact HB.out))⟩)
            ·skip
             refine box_step ?hg (N := 8) ?hd (cs := #[.int .i64 0, .bool false, .int .i64 0, .int .i64 0]) (t := 54) ?hr ?_; (case hd => rfl); (case hg => rfl); (case hr => first | (go_simp; done) | (go_simp; rfl))
             intro gb173 hg w54 hbox hb
             have n0_ := Aside0.mk (Kd.R_below (zR HO_149001) hb)
             have n1_ := Aside0.mk (Kd.R_below (Kd.R_elderB (zR HO_149002) gb173 (Nat.le_of_eq hg.symm)) hb)
             have n2_ := kB BK144 hb
             have n3_ := kB BK148 hb
             have n4_ := Aside0.mk (IsS77.below (by repeat (first | (with_reducible first | exact HI0.out | apply IsS77.alloc | apply IsS77.drewN | apply IsS77.drew | apply IsS77.set_1 | apply IsS77.set_2 | refine IsS77.far ?_ NB0_144.out _ | refine IsS77.far ?_ NB0_148.out _) | exact HI0.out)) hb)
             have n5_ := Aside0.mk (KeepBut.trans (by repeat (first | (with_reducible first | exact HK.out | apply KeepBut.set_ | apply keep_drewN | apply keep_drew | apply keep_alloc | refine keep_far ?_ GW144.out _ | refine keep_far ?_ GW148.out _) | exact HK.out)) (KeepBut.of_below hb g none) (.inl rfl))
             have n6_ := Aside0.mk (below_step (by repeat (first | (with_reducible first | exact HB.out | apply below_alloc | apply pw_below_drewN | apply below_drew1 | refine below_set ?_ (IsS77.ge HI0.out) | refine below_set ?_ GE144.out | refine below_set ?_ GE148.out) | exact HB.out)) hb)
             have n7_ := Aside0.mk (hbox)
             have n8_ := Aside0.mk ((by rw [hg]; exact (keep_size (w := w) (g := g) (row := none) (by repeat (first | (with_reducible first | exact HK.out | apply KeepBut.set_ | apply keep_drewN | apply keep_drew | apply keep_alloc | refine keep_far ?_ GW144.out _ | refine keep_far ?_ GW148.out _) | exact HK.out))) : w.heap.size ≤ gb173))
             have n9_ := Aside0.mk ((Nat.le_trans HW0.out (by rw [hg]; exact (keep_size (w := w) (g := g) (row := none) (by repeat (first | (with_reducible first | exact HK.out | apply KeepBut.set_ | apply keep_drewN | apply keep_drew | apply keep_alloc | refine keep_far ?_ GW144.out _ | refine keep_far ?_ GW148.out _) | exact HK.out))) : w.heap.size ≤ gb173) : w0.heap.size ≤ gb173))
             have n10_ := Aside0.mk ((by rw [hg]; exact Nat.ne_of_lt (blk_lt (g := gb144) (o := .cells #[.int .i64 0, .slice none 0 0, .slice none 0 0] 29 (0, 0)) (zK BK144)) : gb144 ≠ gb173))
             have n11_ := Aside0.mk ((by rw [hg]; exact Nat.ne_of_gt (blk_lt (g := gb144) (o := .cells #[.int .i64 0, .slice none 0 0, .slice none 0 0] 29 (0, 0)) (zK BK144)) : gb173 ≠ gb144))
             have n12_ := Aside0.mk ((by rw [hg]; exact Nat.ne_of_lt (blk_lt (g := gb148) (o := .cells #[.int .i64 (wrap64 (1 + t145)), u149001, u149002] 29 (0, 0)) (zK BK148)) : gb148 ≠ gb173))
             have n13_ := Aside0.mk ((by rw [hg]; exact Nat.ne_of_gt (blk_lt (g := gb148) (o := .cells #[.int .i64 (wrap64 (1 + t145)), u149001, u149002] 29 (0, 0)) (zK BK148)) : gb173 ≠ gb148))
             have n14_ := Aside0.mk ((by rw [hg]; exact Nat.ne_of_lt (IsS77.lt (show IsS77 w0 _ g s0_0 t168 t169 from by repeat (first | (with_reducible first | exact HI0.out | apply IsS77.alloc | apply IsS77.drewN | apply IsS77.drew | apply IsS77.set_1 | apply IsS77.set_2 | refine IsS77.far ?_ NB0_144.out _ | refine IsS77.far ?_ NB0_148.out _) | exact HI0.out))) : g ≠ gb173))
             have n15_ := Aside0.mk ((by rw [hg]; exact Nat.ne_of_gt (IsS77.lt (show IsS77 w0 _ g s0_0 t168 t169 from by repeat (first | (with_reducible first | exact HI0.out | apply IsS77.alloc | apply IsS77.drewN | apply IsS77.drew | apply IsS77.set_1 | apply IsS77.set_2 | refine IsS77.far ?_ NB0_144.out _ | refine IsS77.far ?_ NB0_148.out _) | exact HI0.out))) : gb173 ≠ g))
             clear HO_149001
             clear HO_149002
             clear BK144
             clear BK148
             clear HI0
             clear HK
             clear HB
             have HO_149001 := n0_
             have HO_149002 := n1_
             have BK144 := n2_
             have BK148 := n3_
             have HI0 := n4_
             have HK := n5_
             have HB := n6_
             have BK173 := n7_
             have GW173 := n8_
             have GE173 := n9_
             have NB144_173 := n10_
             have NB173_144 := n11_
             have NB148_173 := n12_
             have NB173_148 := n13_
             have NB0_173 := n14_
             have NB173_0 := n15_
             clear n0_ n1_ n2_ n3_ n4_ n5_ n6_ n7_ n8_ n9_ n10_ n11_ n12_ n13_ n14_ n15_
             clear hb hbox hg
             refine hK.out _ _ ⟨bc0 BK148, bc1 BK148, bc2 BK148⟩ (fun hHeld => ?_)
             clear hK K
             refine norm_ (a' := ?_) ?_ ?_
             rotate_left
             ·show Act.put _ (some 8) _ = _
              simp only [Act.put, List.setIfInBounds_toArray, List.set_cons_zero, List.set_cons_succ, i64_w, i32_w]
              rfl
             refine one_ (i := 7) (N := some 40) (bm 11 767) rfl rfl (one_of HT_.out (by kernel_rfl)) (by decide) (fun K hK => ?_)
             refine goes_ Try.func38 (by kernel_rfl) rfl #[.pointer (some ⟨g, 0, none⟩), .int .i64 (wrap64 (1 + t145))] (by rfl) rfl rfl zG ?_
             with_reducible refine (spec_l1Below.calls g s0_0 t168 t169 (wrap64 (1 + t145)) t170 t171 t172 w0 _ ?side1 ?side2 A23.out).mono ?_
             (case side1 => repeat (first | (with_reducible first | exact HI0.out | apply IsS77.alloc | apply IsS77.drewN | apply IsS77.drew | apply IsS77.set_1 | apply IsS77.set_2 | refine IsS77.far ?_ NB0_144.out _ | refine IsS77.far ?_ NB0_148.out _ | refine IsS77.far ?_ NB0_173.out _) | exact HI0.out))
             (case side2 => repeat (first | (with_reducible first | exact HB.out | apply below_alloc | apply pw_below_drewN | apply below_drew1 | refine below_set ?_ (IsS77.ge HI0.out) | refine below_set ?_ GE144.out | refine below_set ?_ GE148.out | refine below_set ?_ GE173.out) | exact HB.out))
             rintro e w55 ⟨rfl, hi, hb, hk⟩
             refine ⟨_, rfl, ?_⟩
             have n0_ := Aside0.mk (Kd.R_mono (Kd.R_keep (IsS77.apart (show IsS77 w0 _ g s0_0 t168 t169 from by repeat (first | (with_reducible first | exact HI0.out | apply IsS77.alloc | apply IsS77.drewN | apply IsS77.drew | apply IsS77.set_1 | apply IsS77.set_2 | refine IsS77.far ?_ NB0_144.out _ | refine IsS77.far ?_ NB0_148.out _ | refine IsS77.far ?_ NB0_173.out _) | exact HI0.out)) (zR HO_149001) (by decide)) hk (fun _ h => h.2)) (fun _ h => h.1))
             have n1_ := Aside0.mk (Kd.R_mono (Kd.R_keep (IsS77.apart (show IsS77 w0 _ g s0_0 t168 t169 from by repeat (first | (with_reducible first | exact HI0.out | apply IsS77.alloc | apply IsS77.drewN | apply IsS77.drew | apply IsS77.set_1 | apply IsS77.set_2 | refine IsS77.far ?_ NB0_144.out _ | refine IsS77.far ?_ NB0_148.out _ | refine IsS77.far ?_ NB0_173.out _) | exact HI0.out)) (zR HO_149002) (by decide)) hk (fun _ h => h.2)) (fun _ h => h.1))
             have n2_ := Aside0.mk (KeepBut.blk hk (g' := gb144) (o := .cells #[.int .i64 0, .slice none 0 0, .slice none 0 0] 29 (0, 0)) (zK BK144) NB144_0.out (by simp))
             have n3_ := Aside0.mk (KeepBut.blk hk (g' := gb148) (o := .cells #[.int .i64 (wrap64 (1 + t145)), u149001, u149002] 29 (0, 0)) (zK BK148) NB148_0.out (by simp))
             have n4_ := Aside0.mk (KeepBut.blk hk (g' := gb173) (o := .cells #[.int .i64 0, .bool false, .int .i64 0, .int .i64 0] 54 (0, 0)) (zK BK173) NB173_0.out (by simp))
             have n5_ := Aside0.mk (KeepBut.trans (by repeat (first | (with_reducible first | exact HK.out | apply KeepBut.set_ | apply keep_drewN | apply keep_drew | apply keep_alloc | refine keep_far ?_ GW144.out _ | refine keep_far ?_ GW148.out _ | refine keep_far ?_ GW173.out _) | exact HK.out)) hk (.inl rfl))
             have n6_ := Aside0.mk (hb)
             have n7_ := Aside0.mk (hi)
             clear HO_149001
             clear HO_149002
             clear BK144
             clear BK148
             clear BK173
             clear HK
             clear HB
             clear HI0
             have HO_149001 := n0_
             have HO_149002 := n1_
             have BK144 := n2_
             have BK148 := n3_
             have BK173 := n4_
             have HK := n5_
             have HB := n6_
             have HI0 := n7_
             clear n0_ n1_ n2_ n3_ n4_ n5_ n6_ n7_
             (try clear hb)
             (try clear hb2)
             (try clear hk)
             (try clear hi)
             refine hK.out _ _ ⟨bc0 BK148, bc1 BK148, bc2 BK148⟩ (fun hHeld => ?_)
             clear hK K
             refine norm_ (a' := ?_) ?_ ?_
             rotate_left
             ·show Act.put _ (some 40) _ = _
              simp only [Act.put, List.setIfInBounds_toArray, List.set_cons_zero, List.set_cons_succ, i64_w, i32_w]
              rfl
             refine pure_ (i := 8) (N := some 41) (v := ?_) (a' := ?_) (bm 11 1023) rfl rfl (any_of HT_.out (by kernel_rfl)) (fun _ _ _ h => h) (Or.inl ⟨by rfl, ?_⟩) ?_ ?_
             rotate_left
             ·intro w'
              go_simp
              with_reducible rfl
             rotate_left
             ·simp only [Act.put, List.setIfInBounds_toArray, List.set_cons_zero, List.set_cons_succ, i64_w, i32_w]
              rfl
             exact norm_ (by simp only [putAll, Act.put, List.setIfInBounds_toArray, List.set_cons_zero, List.set_cons_succ]) (hCont (gb173) _ ⟨hHeld, (zR HO_149001), (by (with_reducible repeat (first | apply Kd.R_alloc | apply Kd.R_drewN | apply Kd.R_drew)); exact Kd.R_mono HO_149002.out (fun _ hk => hk.2)), (zK BK144), (zK BK148), (zK BK173), GW173.out, GE173.out, NB0_173.out, NB173_0.out, NB144_173.out, NB173_144.out, NB148_173.out, NB173_148.out, (by repeat (first | (with_reducible first | exact HI0.out | apply IsS77.alloc | apply IsS77.drewN | apply IsS77.drew | apply IsS77.set_1 | apply IsS77.set_2 | refine IsS77.far ?_ NB0_144.out _ | refine IsS77.far ?_ NB0_148.out _ | refine IsS77.far ?_ NB0_173.out _) | exact HI0.out)), (by repeat (first | (with_reducible first | exact HK.out | apply KeepBut.set_ | apply keep_drewN | apply keep_drew | apply keep_alloc | refine keep_far ?_ GW144.out _ | refine keep_far ?_ GW148.out _ | refine keep_far ?_ GW173.out _) | exact HK.out)), (by repeat (first | (with_reducible first | exact HB.out | apply below_alloc | apply pw_below_drewN | apply below_drew1 | refine below_set ?_ (IsS77.ge HI0.out) | refine below_set ?_ GE144.out | refine below_set ?_ GE148.out | refine below_set ?_ GE173.out) | exact HB.out))⟩)
           ·skip
            refine box_step ?hg (N := 8) ?hd (cs := #[.int .i64 0, .bool false, .int .i64 0, .int .i64 0]) (t := 54) ?hr ?_; (case hd => rfl); (case hg => rfl); (case hr => first | (go_simp; done) | (go_simp; rfl))
            intro gb173 hg w53 hbox hb
            have n0_ := Aside0.mk (Kd.R_below (zR HO_149001) hb)
            have n1_ := Aside0.mk (Kd.R_below (Kd.R_elderB (zR HO_149002) gb173 (Nat.le_of_eq hg.symm)) hb)
            have n2_ := kB BK144 hb
            have n3_ := kB BK148 hb
            have n4_ := Aside0.mk (IsS77.below (by repeat (first | (with_reducible first | exact HI0.out | apply IsS77.alloc | apply IsS77.drewN | apply IsS77.drew | apply IsS77.set_1 | apply IsS77.set_2 | refine IsS77.far ?_ NB0_144.out _ | refine IsS77.far ?_ NB0_148.out _) | exact HI0.out)) hb)
            have n5_ := Aside0.mk (KeepBut.trans (by repeat (first | (with_reducible first | exact HK.out | apply KeepBut.set_ | apply keep_drewN | apply keep_drew | apply keep_alloc | refine keep_far ?_ GW144.out _ | refine keep_far ?_ GW148.out _) | exact HK.out)) (KeepBut.of_below hb g none) (.inl rfl))
            have n6_ := Aside0.mk (below_step (by repeat (first | (with_reducible first | exact HB.out | apply below_alloc | apply pw_below_drewN | apply below_drew1 | refine below_set ?_ (IsS77.ge HI0.out) | refine below_set ?_ GE144.out | refine below_set ?_ GE148.out) | exact HB.out)) hb)
            have n7_ := Aside0.mk (hbox)
            have n8_ := Aside0.mk ((by rw [hg]; exact (keep_size (w := w) (g := g) (row := none) (by repeat (first | (with_reducible first | exact HK.out | apply KeepBut.set_ | apply keep_drewN | apply keep_drew | apply keep_alloc | refine keep_far ?_ GW144.out _ | refine keep_far ?_ GW148.out _) | exact HK.out))) : w.heap.size ≤ gb173))
            have n9_ := Aside0.mk ((Nat.le_trans HW0.out (by rw [hg]; exact (keep_size (w := w) (g := g) (row := none) (by repeat (first | (with_reducible first | exact HK.out | apply KeepBut.set_ | apply keep_drewN | apply keep_drew | apply keep_alloc | refine keep_far ?_ GW144.out _ | refine keep_far ?_ GW148.out _) | exact HK.out))) : w.heap.size ≤ gb173) : w0.heap.size ≤ gb173))
            have n10_ := Aside0.mk ((by rw [hg]; exact Nat.ne_of_lt (blk_lt (g := gb144) (o := .cells #[.int .i64 0, .slice none 0 0, .slice none 0 0] 29 (0, 0)) (zK BK144)) : gb144 ≠ gb173))
            have n11_ := Aside0.mk ((by rw [hg]; exact Nat.ne_of_gt (blk_lt (g := gb144) (o := .cells #[.int .i64 0, .slice none 0 0, .slice none 0 0] 29 (0, 0)) (zK BK144)) : gb173 ≠ gb144))
            have n12_ := Aside0.mk ((by rw [hg]; exact Nat.ne_of_lt (blk_lt (g := gb148) (o := .cells #[.int .i64 (wrap64 (1 + t145)), u149001, u149002] 29 (0, 0)) (zK BK148)) : gb148 ≠ gb173))
            have n13_ := Aside0.mk ((by rw [hg]; exact Nat.ne_of_gt (blk_lt (g := gb148) (o := .cells #[.int .i64 (wrap64 (1 + t145)), u149001, u149002] 29 (0, 0)) (zK BK148)) : gb173 ≠ gb148))
            have n14_ := Aside0.mk ((by rw [hg]; exact Nat.ne_of_lt (IsS77.lt (show IsS77 w0 _ g s0_0 x1001_3 x1002_3 from by repeat (first | (with_reducible first | exact HI0.out | apply IsS77.alloc | apply IsS77.drewN | apply IsS77.drew | apply IsS77.set_1 | apply IsS77.set_2 | refine IsS77.far ?_ NB0_144.out _ | refine IsS77.far ?_ NB0_148.out _) | exact HI0.out))) : g ≠ gb173))
            have n15_ := Aside0.mk ((by rw [hg]; exact Nat.ne_of_gt (IsS77.lt (show IsS77 w0 _ g s0_0 x1001_3 x1002_3 from by repeat (first | (with_reducible first | exact HI0.out | apply IsS77.alloc | apply IsS77.drewN | apply IsS77.drew | apply IsS77.set_1 | apply IsS77.set_2 | refine IsS77.far ?_ NB0_144.out _ | refine IsS77.far ?_ NB0_148.out _) | exact HI0.out))) : gb173 ≠ g))
            clear HO_149001
            clear HO_149002
            clear BK144
            clear BK148
            clear HI0
            clear HK
            clear HB
            have HO_149001 := n0_
            have HO_149002 := n1_
            have BK144 := n2_
            have BK148 := n3_
            have HI0 := n4_
            have HK := n5_
            have HB := n6_
            have BK173 := n7_
            have GW173 := n8_
            have GE173 := n9_
            have NB144_173 := n10_
            have NB173_144 := n11_
            have NB148_173 := n12_
            have NB173_148 := n13_
            have NB0_173 := n14_
            have NB173_0 := n15_
            clear n0_ n1_ n2_ n3_ n4_ n5_ n6_ n7_ n8_ n9_ n10_ n11_ n12_ n13_ n14_ n15_
            clear hb hbox hg
            refine hK.out _ _ ⟨bc0 BK148, bc1 BK148, bc2 BK148⟩ (fun hHeld => ?_)
            clear hK K
            refine norm_ (a' := ?_) ?_ ?_
            rotate_left
            ·show Act.put _ (some 8) _ = _
             simp only [Act.put, List.setIfInBounds_toArray, List.set_cons_zero, List.set_cons_succ, i64_w, i32_w]
             rfl
            refine one_ (i := 3) (N := some 36) (bm 11 639) rfl rfl (one_of HT_.out (by kernel_rfl)) (by decide) (fun K hK => ?_)
            refine goes_ Try.func38 (by kernel_rfl) rfl #[.pointer (some ⟨g, 0, none⟩), .int .i64 3] (by rfl) rfl rfl zG ?_
            with_reducible refine (spec_l1Below.calls g s0_0 x1001_3 x1002_3 3 t167 t168 t169 w0 _ ?side1 ?side2 A22.out).mono ?_
            (case side1 => repeat (first | (with_reducible first | exact HI0.out | apply IsS77.alloc | apply IsS77.drewN | apply IsS77.drew | apply IsS77.set_1 | apply IsS77.set_2 | refine IsS77.far ?_ NB0_144.out _ | refine IsS77.far ?_ NB0_148.out _ | refine IsS77.far ?_ NB0_173.out _) | exact HI0.out))
            (case side2 => repeat (first | (with_reducible first | exact HB.out | apply below_alloc | apply pw_below_drewN | apply below_drew1 | refine below_set ?_ (IsS77.ge HI0.out) | refine below_set ?_ GE144.out | refine below_set ?_ GE148.out | refine below_set ?_ GE173.out) | exact HB.out))
            rintro e w54 ⟨rfl, hi, hb, hk⟩
            refine ⟨_, rfl, ?_⟩
            have n0_ := Aside0.mk (Kd.R_mono (Kd.R_keep (IsS77.apart (show IsS77 w0 _ g s0_0 x1001_3 x1002_3 from by repeat (first | (with_reducible first | exact HI0.out | apply IsS77.alloc | apply IsS77.drewN | apply IsS77.drew | apply IsS77.set_1 | apply IsS77.set_2 | refine IsS77.far ?_ NB0_144.out _ | refine IsS77.far ?_ NB0_148.out _ | refine IsS77.far ?_ NB0_173.out _) | exact HI0.out)) (zR HO_149001) (by decide)) hk (fun _ h => h.2)) (fun _ h => h.1))
            have n1_ := Aside0.mk (Kd.R_mono (Kd.R_keep (IsS77.apart (show IsS77 w0 _ g s0_0 x1001_3 x1002_3 from by repeat (first | (with_reducible first | exact HI0.out | apply IsS77.alloc | apply IsS77.drewN | apply IsS77.drew | apply IsS77.set_1 | apply IsS77.set_2 | refine IsS77.far ?_ NB0_144.out _ | refine IsS77.far ?_ NB0_148.out _ | refine IsS77.far ?_ NB0_173.out _) | exact HI0.out)) (zR HO_149002) (by decide)) hk (fun _ h => h.2)) (fun _ h => h.1))
            have n2_ := Aside0.mk (KeepBut.blk hk (g' := gb144) (o := .cells #[.int .i64 0, .slice none 0 0, .slice none 0 0] 29 (0, 0)) (zK BK144) NB144_0.out (by simp))
            have n3_ := Aside0.mk (KeepBut.blk hk (g' := gb148) (o := .cells #[.int .i64 (wrap64 (1 + t145)), u149001, u149002] 29 (0, 0)) (zK BK148) NB148_0.out (by simp))
            have n4_ := Aside0.mk (KeepBut.blk hk (g' := gb173) (o := .cells #[.int .i64 0, .bool false, .int .i64 0, .int .i64 0] 54 (0, 0)) (zK BK173) NB173_0.out (by simp))
            have n5_ := Aside0.mk (KeepBut.trans (by repeat (first | (with_reducible first | exact HK.out | apply KeepBut.set_ | apply keep_drewN | apply keep_drew | apply keep_alloc | refine keep_far ?_ GW144.out _ | refine keep_far ?_ GW148.out _ | refine keep_far ?_ GW173.out _) | exact HK.out)) hk (.inl rfl))
            have n6_ := Aside0.mk (hb)
            have n7_ := Aside0.mk (hi)
            clear HO_149001
            clear HO_149002
            clear BK144
            clear BK148
            clear BK173
            clear HK
            clear HB
            clear HI0
            have HO_149001 := n0_
            have HO_149002 := n1_
            have BK144 := n2_
            have BK148 := n3_
            have BK173 := n4_
            have HK := n5_
            have HB := n6_
            have HI0 := n7_
            clear n0_ n1_ n2_ n3_ n4_ n5_ n6_ n7_
            (try clear hb)
            (try clear hb2)
            (try clear hk)
            (try clear hi)
            refine hK.out _ _ ⟨bc0 BK148, bc1 BK148, bc2 BK148⟩ (fun hHeld => ?_)
            clear hK K
            refine norm_ (a' := ?_) ?_ ?_
            rotate_left
            ·show Act.put _ (some 36) _ = _
             simp only [Act.put, List.setIfInBounds_toArray, List.set_cons_zero, List.set_cons_succ, i64_w, i32_w]
             rfl
            refine one_ (i := 7) (N := some 40) (bm 11 767) rfl rfl (one_of HT_.out (by kernel_rfl)) (by decide) (fun K hK => ?_)
            refine goes_ Try.func38 (by kernel_rfl) rfl #[.pointer (some ⟨g, 0, none⟩), .int .i64 (wrap64 (1 + t145))] (by rfl) rfl rfl zG ?_
            with_reducible refine (spec_l1Below.calls g s0_0 t168 t169 (wrap64 (1 + t145)) t170 t171 t172 w0 _ ?side1 ?side2 A23.out).mono ?_
            (case side1 => repeat (first | (with_reducible first | exact HI0.out | apply IsS77.alloc | apply IsS77.drewN | apply IsS77.drew | apply IsS77.set_1 | apply IsS77.set_2 | refine IsS77.far ?_ NB0_144.out _ | refine IsS77.far ?_ NB0_148.out _ | refine IsS77.far ?_ NB0_173.out _) | exact HI0.out))
            (case side2 => repeat (first | (with_reducible first | exact HB.out | apply below_alloc | apply pw_below_drewN | apply below_drew1 | refine below_set ?_ (IsS77.ge HI0.out) | refine below_set ?_ GE144.out | refine below_set ?_ GE148.out | refine below_set ?_ GE173.out) | exact HB.out))
            rintro e w55 ⟨rfl, hi, hb, hk⟩
            refine ⟨_, rfl, ?_⟩
            have n0_ := Aside0.mk (Kd.R_mono (Kd.R_keep (IsS77.apart (show IsS77 w0 _ g s0_0 t168 t169 from by repeat (first | (with_reducible first | exact HI0.out | apply IsS77.alloc | apply IsS77.drewN | apply IsS77.drew | apply IsS77.set_1 | apply IsS77.set_2 | refine IsS77.far ?_ NB0_144.out _ | refine IsS77.far ?_ NB0_148.out _ | refine IsS77.far ?_ NB0_173.out _) | exact HI0.out)) (zR HO_149001) (by decide)) hk (fun _ h => h.2)) (fun _ h => h.1))
            have n1_ := Aside0.mk (Kd.R_mono (Kd.R_keep (IsS77.apart (show IsS77 w0 _ g s0_0 t168 t169 from by repeat (first | (with_reducible first | exact HI0.out | apply IsS77.alloc | apply IsS77.drewN | apply IsS77.drew | apply IsS77.set_1 | apply IsS77.set_2 | refine IsS77.far ?_ NB0_144.out _ | refine IsS77.far ?_ NB0_148.out _ | refine IsS77.far ?_ NB0_173.out _) | exact HI0.out)) (zR HO_149002) (by decide)) hk (fun _ h => h.2)) (fun _ h => h.1))
            have n2_ := Aside0.mk (KeepBut.blk hk (g' := gb144) (o := .cells #[.int .i64 0, .slice none 0 0, .slice none 0 0] 29 (0, 0)) (zK BK144) NB144_0.out (by simp))
            have n3_ := Aside0.mk (KeepBut.blk hk (g' := gb148) (o := .cells #[.int .i64 (wrap64 (1 + t145)), u149001, u149002] 29 (0, 0)) (zK BK148) NB148_0.out (by simp))
            have n4_ := Aside0.mk (KeepBut.blk hk (g' := gb173) (o := .cells #[.int .i64 0, .bool false, .int .i64 0, .int .i64 0] 54 (0, 0)) (zK BK173) NB173_0.out (by simp))
            have n5_ := Aside0.mk (KeepBut.trans (by repeat (first | (with_reducible first | exact HK.out | apply KeepBut.set_ | apply keep_drewN | apply keep_drew | apply keep_alloc | refine keep_far ?_ GW144.out _ | refine keep_far ?_ GW148.out _ | refine keep_far ?_ GW173.out _) | exact HK.out)) hk (.inl rfl))
            have n6_ := Aside0.mk (hb)
            have n7_ := Aside0.mk (hi)
            clear HO_149001
            clear HO_149002
            clear BK144
            clear BK148
            clear BK173
            clear HK
            clear HB
            clear HI0
            have HO_149001 := n0_
            have HO_149002 := n1_
            have BK144 := n2_
            have BK148 := n3_
            have BK173 := n4_
            have HK := n5_
            have HB := n6_
            have HI0 := n7_
            clear n0_ n1_ n2_ n3_ n4_ n5_ n6_ n7_
            (try clear hb)
            (try clear hb2)
            (try clear hk)
            (try clear hi)
            refine hK.out _ _ ⟨bc0 BK148, bc1 BK148, bc2 BK148⟩ (fun hHeld => ?_)
            clear hK K
            refine norm_ (a' := ?_) ?_ ?_
            rotate_left
            ·show Act.put _ (some 40) _ = _
             simp only [Act.put, List.setIfInBounds_toArray, List.set_cons_zero, List.set_cons_succ, i64_w, i32_w]
             rfl
            refine pure_ (i := 8) (N := some 41) (v := ?_) (a' := ?_) (bm 11 1023) rfl rfl (any_of HT_.out (by kernel_rfl)) (fun _ _ _ h => h) (Or.inl ⟨by rfl, ?_⟩) ?_ ?_
            rotate_left
            ·intro w'
             go_simp
             with_reducible rfl
            rotate_left
            ·simp only [Act.put, List.setIfInBounds_toArray, List.set_cons_zero, List.set_cons_succ, i64_w, i32_w]
             rfl
            exact norm_ (by simp only [putAll, Act.put, List.setIfInBounds_toArray, List.set_cons_zero, List.set_cons_succ]) (hCont (gb173) _ ⟨hHeld, (zR HO_149001), (by (with_reducible repeat (first | apply Kd.R_alloc | apply Kd.R_drewN | apply Kd.R_drew)); exact Kd.R_mono HO_149002.out (fun _ hk => hk.2)), (zK BK144), (zK BK148), (zK BK173), GW173.out, GE173.out, NB0_173.out, NB173_0.out, NB144_173.out, NB173_144.out, NB148_173.out, NB173_148.out, (by repeat (first | (with_reducible first | exact HI0.out | apply IsS77.alloc | apply IsS77.drewN | apply IsS77.drew | apply IsS77.set_1 | apply IsS77.set_2 | refine IsS77.far ?_ NB0_144.out _ | refine IsS77.far ?_ NB0_148.out _ | refine IsS77.far ?_ NB0_173.out _) | exact HI0.out)), (by repeat (first | (with_reducible first | exact HK.out | apply KeepBut.set_ | apply keep_drewN | apply keep_drew | apply keep_alloc | refine keep_far ?_ GW144.out _ | refine keep_far ?_ GW148.out _ | refine keep_far ?_ GW173.out _) | exact HK.out)), (by repeat (first | (with_reducible first | exact HB.out | apply below_alloc | apply pw_below_drewN | apply below_drew1 | refine below_set ?_ (IsS77.ge HI0.out) | refine below_set ?_ GE144.out | refine below_set ?_ GE148.out | refine below_set ?_ GE173.out) | exact HB.out))⟩)
          rintro gb173 w56 ⟨hS_, h0_, h1_, h2_, h3_, h4_, h5_, h6_, h7_, h8_, h9_, h10_, h11_, h12_, h13_, h14_, h15_⟩
          have n0_ : Aside0 (Kd.R Kd.bool 4 w56 w.heap.size (fun _ => True) u149001 x149001_1) := ⟨h0_⟩
          have n1_ : Aside0 (Kd.R k54 54 w56 w.heap.size (fun k_ => k_ ≠ gb173) u149002 x149002_3) := ⟨h1_⟩
          have n2_ : Aside0 (w56.heap[gb144]? = some (.cells #[.int .i64 0, .slice none 0 0, .slice none 0 0] 29 (0, 0))) := ⟨h2_⟩
          have n3_ : Aside0 (w56.heap[gb148]? = some (.cells #[.int .i64 (wrap64 (1 + t145)), u149001, u149002] 29 (0, 0))) := ⟨h3_⟩
          have n4_ : Aside0 (w56.heap[gb173]? = some (.cells #[.int .i64 0, .bool false, .int .i64 0, .int .i64 0] 54 (0, 0))) := ⟨h4_⟩
          have n5_ : Aside0 (w.heap.size ≤ gb173) := ⟨h5_⟩
          have n6_ : Aside0 (w0.heap.size ≤ gb173) := ⟨h6_⟩
          have n7_ : Aside0 (g ≠ gb173) := ⟨h7_⟩
          have n8_ : Aside0 (gb173 ≠ g) := ⟨h8_⟩
          have n9_ : Aside0 (gb144 ≠ gb173) := ⟨h9_⟩
          have n10_ : Aside0 (gb173 ≠ gb144) := ⟨h10_⟩
          have n11_ : Aside0 (gb148 ≠ gb173) := ⟨h11_⟩
          have n12_ : Aside0 (gb173 ≠ gb148) := ⟨h12_⟩
          have n13_ : Aside0 (IsS77 w0 w56 g s0_0 t171 t172) := ⟨h13_⟩
          have n14_ : Aside0 (KeepBut w w56 g none) := ⟨h14_⟩
          have n15_ : Aside0 (Below w0.heap.size w0 w56) := ⟨h15_⟩
          clear HO_149001
          clear HO_149002
          clear BK144
          clear BK148
          clear HI0
          clear HK
          clear HB
          clear h0_ h1_ h2_ h3_ h4_ h5_ h6_ h7_ h8_ h9_ h10_ h11_ h12_ h13_ h14_ h15_
          have HO_149001 := n0_
          have HO_149002 := n1_
          have BK144 := n2_
          have BK148 := n3_
          have BK173 := n4_
          have GW173 := n5_
          have GE173 := n6_
          have NB0_173 := n7_
          have NB173_0 := n8_
          have NB144_173 := n9_
          have NB173_144 := n10_
          have NB148_173 := n11_
          have NB173_148 := n12_
          have HI0 := n13_
          have HK := n14_
          have HB := n15_
          clear n0_ n1_ n2_ n3_ n4_ n5_ n6_ n7_ n8_ n9_ n10_ n11_ n12_ n13_ n14_ n15_
          have hHeld : w56.cell? ⟨gb148, 0, none⟩ = some (.int .i64 (wrap64 (1 + t145))) ∧ w56.cell? ⟨gb148, 1, none⟩ = some (u149001) ∧ w56.cell? ⟨gb148, 2, none⟩ = some (u149002) := hS_
          refine norm_ (a' := ?_) ?_ ?_
          rotate_left
          ·simp only [putAll, Act.put, List.setIfInBounds_toArray, List.set_cons_zero, List.set_cons_succ]
           rfl
          refine one_ (i := 10) (N := none) (bm 11 2047) rfl rfl (one_of HT_.out (by kernel_rfl)) (by decide) (fun K hK => ?_)
          have hs57 : w56.cell? ⟨gb173, 0, none⟩ = some (.int .i64 0) := bc0 BK173
          have hfs57 := bf BK173 0
          have hns57_0 := NB144_173.out
          have hns57_1 := NB148_173.out
          have hms57_0 := NB173_144.out
          have hms57_1 := NB173_148.out
          have hs58 : w56.cell? ⟨gb173, 1, none⟩ = some (.bool false) := bc1 BK173
          have hfs58 := bf BK173 1
          have hns58_0 := NB144_173.out
          have hns58_1 := NB148_173.out
          have hms58_0 := NB173_144.out
          have hms58_1 := NB173_148.out
          have hs59 : w56.cell? ⟨gb173, 2, none⟩ = some (.int .i64 0) := bc2 BK173
          have hfs59 := bf BK173 2
          have hns59_0 := NB144_173.out
          have hns59_1 := NB148_173.out
          have hms59_0 := NB173_144.out
          have hms59_1 := NB173_148.out
          have hs60 : w56.cell? ⟨gb173, 3, none⟩ = some (.int .i64 0) := bc3 BK173
          have hfs60 := bf BK173 3
          have hns60_0 := NB144_173.out
          have hns60_1 := NB148_173.out
          have hms60_0 := NB173_144.out
          have hms60_1 := NB173_148.out
          refine skip_ (w1 := ?_) (by rfl) rfl ?_ ?_
          rotate_left
          ·go_simp
           rfl
          refine hK.out _ _ ⟨((cell_far (p := ⟨gb173, _, none⟩) NB148_173.out _).trans (((cell_far (p := ⟨gb173, _, none⟩) NB148_173.out _).trans (((cell_far (p := ⟨gb173, _, none⟩) NB148_173.out _).trans (((cell_far (p := ⟨gb173, _, none⟩) NB148_173.out _).trans (hHeld.1)))))))), ((cell_far (p := ⟨gb173, _, none⟩) NB148_173.out _).trans (((cell_far (p := ⟨gb173, _, none⟩) NB148_173.out _).trans (((cell_far (p := ⟨gb173, _, none⟩) NB148_173.out _).trans (((cell_far (p := ⟨gb173, _, none⟩) NB148_173.out _).trans (hHeld.2.1)))))))), ((cell_far (p := ⟨gb173, _, none⟩) NB148_173.out _).trans (((cell_far (p := ⟨gb173, _, none⟩) NB148_173.out _).trans (((cell_far (p := ⟨gb173, _, none⟩) NB148_173.out _).trans (((cell_far (p := ⟨gb173, _, none⟩) NB148_173.out _).trans (hHeld.2.2))))))))⟩ (fun hHeld => ?_)
          clear hK K
          refine done_ (done_of HT_.out (by kernel_rfl)) ?_
          try clear hHeld
          have n0_ : Aside0 (Kd.R Kd.bool 4 ((((w56.setCell ⟨gb173, 0, none⟩ (.int .i64 x4_1)).setCell ⟨gb173, 1, none⟩ (.bool t149)).setCell ⟨gb173, 2, none⟩ (.int .i64 t167)).setCell ⟨gb173, 3, none⟩ (.int .i64 t170)) w.heap.size (fun _ => True) u149001 x149001_1) := ⟨by (with_reducible repeat (first | apply Kd.R_alloc | apply Kd.R_drewN | apply Kd.R_drew)); exact Kd.R_mono (Kd.R_far (p := ⟨gb173, 3, none⟩) (Kd.R_far (p := ⟨gb173, 2, none⟩) (Kd.R_far (p := ⟨gb173, 1, none⟩) (Kd.R_far (p := ⟨gb173, 0, none⟩) (Kd.R_types HO_149001.out BK173.out (by decide)) (fun _ hk => hk.2) (.int .i64 x4_1)) (fun _ hk => hk.2) (.bool t149)) (fun _ hk => hk.2) (.int .i64 t167)) (fun _ hk => hk.2) (.int .i64 t170)) (fun _ hk => trivial)⟩
          have n1_ : Aside0 (Kd.R k54 54 ((((w56.setCell ⟨gb173, 0, none⟩ (.int .i64 x4_1)).setCell ⟨gb173, 1, none⟩ (.bool t149)).setCell ⟨gb173, 2, none⟩ (.int .i64 t167)).setCell ⟨gb173, 3, none⟩ (.int .i64 t170)) w.heap.size (fun k_ => k_ ≠ gb173) u149002 x149002_3) := ⟨by (with_reducible repeat (first | apply Kd.R_alloc | apply Kd.R_drewN | apply Kd.R_drew)); exact Kd.R_mono (Kd.R_far (p := ⟨gb173, 3, none⟩) (Kd.R_far (p := ⟨gb173, 2, none⟩) (Kd.R_far (p := ⟨gb173, 1, none⟩) (Kd.R_far (p := ⟨gb173, 0, none⟩) (Kd.R_mono HO_149002.out (fun k_ hk => (⟨hk, hk⟩ : _ ∧ k_ ≠ gb173))) (fun _ hk => hk.2) (.int .i64 x4_1)) (fun _ hk => hk.2) (.bool t149)) (fun _ hk => hk.2) (.int .i64 t167)) (fun _ hk => hk.2) (.int .i64 t170)) (fun _ hk => hk.1)⟩
          have n2_ : Aside0 (((((w56.setCell ⟨gb173, 0, none⟩ (.int .i64 x4_1)).setCell ⟨gb173, 1, none⟩ (.bool t149)).setCell ⟨gb173, 2, none⟩ (.int .i64 t167)).setCell ⟨gb173, 3, none⟩ (.int .i64 t170)).heap[gb144]? = some (.cells #[.int .i64 0, .slice none 0 0, .slice none 0 0] 29 (0, 0))) := ⟨by (with_reducible repeat (first | refine blk_drewN ?_ _ | refine blk_drew ?_ | refine blk_alloc ?_ _)); refine blk_far ?_ NB144_173.out _; (with_reducible repeat (first | refine blk_drewN ?_ _ | refine blk_drew ?_ | refine blk_alloc ?_ _)); refine blk_far ?_ NB144_173.out _; (with_reducible repeat (first | refine blk_drewN ?_ _ | refine blk_drew ?_ | refine blk_alloc ?_ _)); refine blk_far ?_ NB144_173.out _; (with_reducible repeat (first | refine blk_drewN ?_ _ | refine blk_drew ?_ | refine blk_alloc ?_ _)); refine blk_far ?_ NB144_173.out _; (with_reducible repeat (first | refine blk_drewN ?_ _ | refine blk_drew ?_ | refine blk_alloc ?_ _)); exact BK144.out⟩
          have n3_ : Aside0 (((((w56.setCell ⟨gb173, 0, none⟩ (.int .i64 x4_1)).setCell ⟨gb173, 1, none⟩ (.bool t149)).setCell ⟨gb173, 2, none⟩ (.int .i64 t167)).setCell ⟨gb173, 3, none⟩ (.int .i64 t170)).heap[gb148]? = some (.cells #[.int .i64 (wrap64 (1 + t145)), u149001, u149002] 29 (0, 0))) := ⟨by (with_reducible repeat (first | refine blk_drewN ?_ _ | refine blk_drew ?_ | refine blk_alloc ?_ _)); refine blk_far ?_ NB148_173.out _; (with_reducible repeat (first | refine blk_drewN ?_ _ | refine blk_drew ?_ | refine blk_alloc ?_ _)); refine blk_far ?_ NB148_173.out _; (with_reducible repeat (first | refine blk_drewN ?_ _ | refine blk_drew ?_ | refine blk_alloc ?_ _)); refine blk_far ?_ NB148_173.out _; (with_reducible repeat (first | refine blk_drewN ?_ _ | refine blk_drew ?_ | refine blk_alloc ?_ _)); refine blk_far ?_ NB148_173.out _; (with_reducible repeat (first | refine blk_drewN ?_ _ | refine blk_drew ?_ | refine blk_alloc ?_ _)); exact BK148.out⟩
          have n4_ : Aside0 (((((w56.setCell ⟨gb173, 0, none⟩ (.int .i64 x4_1)).setCell ⟨gb173, 1, none⟩ (.bool t149)).setCell ⟨gb173, 2, none⟩ (.int .i64 t167)).setCell ⟨gb173, 3, none⟩ (.int .i64 t170)).heap[gb173]? = some (.cells #[.int .i64 x4_1, .bool t149, .int .i64 t167, .int .i64 t170] 54 (0, 0))) := ⟨by (with_reducible repeat (first | refine blk_drewN ?_ _ | refine blk_drew ?_ | refine blk_alloc ?_ _)); refine blk_put (cs := #[.int .i64 x4_1, .bool t149, .int .i64 t167, .int .i64 0]) ?_ 3 _ rfl; (with_reducible repeat (first | refine blk_drewN ?_ _ | refine blk_drew ?_ | refine blk_alloc ?_ _)); refine blk_put (cs := #[.int .i64 x4_1, .bool t149, .int .i64 0, .int .i64 0]) ?_ 2 _ rfl; (with_reducible repeat (first | refine blk_drewN ?_ _ | refine blk_drew ?_ | refine blk_alloc ?_ _)); refine blk_put (cs := #[.int .i64 x4_1, .bool false, .int .i64 0, .int .i64 0]) ?_ 1 _ rfl; (with_reducible repeat (first | refine blk_drewN ?_ _ | refine blk_drew ?_ | refine blk_alloc ?_ _)); refine blk_put (cs := #[.int .i64 0, .bool false, .int .i64 0, .int .i64 0]) ?_ 0 _ rfl; (with_reducible repeat (first | refine blk_drewN ?_ _ | refine blk_drew ?_ | refine blk_alloc ?_ _)); exact BK173.out⟩
          have n5_ : Aside0 (IsS77 w0 ((((w56.setCell ⟨gb173, 0, none⟩ (.int .i64 x4_1)).setCell ⟨gb173, 1, none⟩ (.bool t149)).setCell ⟨gb173, 2, none⟩ (.int .i64 t167)).setCell ⟨gb173, 3, none⟩ (.int .i64 t170)) g s0_0 t171 t172) := ⟨by repeat (first | (with_reducible first | exact HI0.out | apply IsS77.alloc | apply IsS77.drewN | apply IsS77.drew | apply IsS77.set_1 | apply IsS77.set_2 | refine IsS77.far ?_ NB0_144.out _ | refine IsS77.far ?_ NB0_148.out _ | refine IsS77.far ?_ NB0_173.out _) | exact HI0.out)⟩
          have n6_ : Aside0 (KeepBut w ((((w56.setCell ⟨gb173, 0, none⟩ (.int .i64 x4_1)).setCell ⟨gb173, 1, none⟩ (.bool t149)).setCell ⟨gb173, 2, none⟩ (.int .i64 t167)).setCell ⟨gb173, 3, none⟩ (.int .i64 t170)) g none) := ⟨by repeat (first | (with_reducible first | exact HK.out | apply KeepBut.set_ | apply keep_drewN | apply keep_drew | apply keep_alloc | refine keep_far ?_ GW144.out _ | refine keep_far ?_ GW148.out _ | refine keep_far ?_ GW173.out _) | exact HK.out)⟩
          have n7_ : Aside0 (Below w0.heap.size w0 ((((w56.setCell ⟨gb173, 0, none⟩ (.int .i64 x4_1)).setCell ⟨gb173, 1, none⟩ (.bool t149)).setCell ⟨gb173, 2, none⟩ (.int .i64 t167)).setCell ⟨gb173, 3, none⟩ (.int .i64 t170))) := ⟨by repeat (first | (with_reducible first | exact HB.out | apply below_alloc | apply pw_below_drewN | apply below_drew1 | refine below_set ?_ (IsS77.ge HI0.out) | refine below_set ?_ GE144.out | refine below_set ?_ GE148.out | refine below_set ?_ GE173.out) | exact HB.out)⟩
          (try clear HO_149001)
          (try clear HO_149002)
          (try clear BK144)
          (try clear BK148)
          (try clear BK173)
          (try clear HI0)
          (try clear HK)
          (try clear HB)
          generalize ((((w56.setCell ⟨gb173, 0, none⟩ (.int .i64 x4_1)).setCell ⟨gb173, 1, none⟩ (.bool t149)).setCell ⟨gb173, 2, none⟩ (.int .i64 t167)).setCell ⟨gb173, 3, none⟩ (.int .i64 t170)) = w61 at n0_ n1_ n2_ n3_ n4_ n5_ n6_ n7_ ⊢
          have HO_149001 := n0_
          have HO_149002 := n1_
          have BK144 := n2_
          have BK148 := n3_
          have BK173 := n4_
          have HI0 := n5_
          have HK := n6_
          have HB := n7_
          clear n0_ n1_ n2_ n3_ n4_ n5_ n6_ n7_
          have hnb62 := NB148_144.out
          have hnc62 := NB144_148.out
          have hnb63 := NB148_173.out
          have hnc63 := NB173_148.out
          have hnb64 := NB148_0.out
          have hnc64 := NB0_148.out
          have hcz65_0 := bc0 BK148
          have hcz65_1 := bc1 BK148
          have hcz65_2 := bc2 BK148
          have hfz65_0 := bf BK148 0
          have hfz65_1 := bf BK148 1
          have hfz65_2 := bf BK148 2
          have hnb66 := NB173_144.out
          have hnc66 := NB144_173.out
          have hnb67 := NB173_0.out
          have hnc67 := NB0_173.out
          have hcz68_0 := bc0 BK173
          have hcz68_1 := bc1 BK173
          have hcz68_2 := bc2 BK173
          have hcz68_3 := bc3 BK173
          have hfz68_0 := bf BK173 0
          have hfz68_1 := bf BK173 1
          have hfz68_2 := bf BK173 2
          have hfz68_3 := bf BK173 3
          obtain ⟨Ao69, co69, eo69⟩ := Kd.R_slice HO_149001.out
          subst eo69
          obtain ⟨Ao70, co70, eo70⟩ := Kd.R_slice HO_149002.out
          subst eo70
          try go_wp2_with (first | ((with_reducible refine gate_callee (f := 49) rfl ?_); refine goesL_ (some 47) rfl rfl Try.func49 (by kernel_rfl) rfl #[.agg #[.int .i64 (wrap64 (1 + t145)), .slice Ao69 x149001_1.length co69, .slice Ao70 x149002_3.length co70], .int .i64 x4_1, .bool t149, .int .i64 t167] rfl zG ?_; (with_reducible refine (spec_MoveOf.calls k3 (wrap64 (1 + t145)) _ _ x149001_1 _ _ x149002_3 x4_1 t149 t167 t174 _ ?side1 ?side2 ?side3 ?side4 A24.out).mono ?_); (case side1 => repeat (first | exact (Kd.R_reads' HO_149001.out).2.2 | (with_reducible refine Kd.C_alloc ?_ _) | (with_reducible refine Kd.C_drewN ?_ _) | (with_reducible refine Kd.C_drew ?_))); (case side2 => exact (Kd.R_reads' HO_149001.out).2.1); (case side3 => repeat (first | exact (Kd.R_reads' HO_149002.out).2.2 | (with_reducible refine Kd.C_alloc ?_ _) | (with_reducible refine Kd.C_drewN ?_ _) | (with_reducible refine Kd.C_drew ?_))); (case side4 => exact (Kd.R_reads' HO_149002.out).2.1); rintro e w71 ⟨rfl, hb⟩; refine ⟨_, rfl, ?_⟩; have n0_ := Aside0.mk (Kd.R_below (zR HO_149001) hb); have n1_ := Aside0.mk (Kd.R_below (zR HO_149002) hb); have n2_ := kB BK144 hb; have n3_ := kB BK148 hb; have n4_ := Aside0.mk (IsS77.below (by repeat (first | (with_reducible first | exact HI0.out | apply IsS77.alloc | apply IsS77.drewN | apply IsS77.drew | apply IsS77.set_1 | apply IsS77.set_2 | refine IsS77.far ?_ NB0_144.out _ | refine IsS77.far ?_ NB0_148.out _ | refine IsS77.far ?_ NB0_173.out _) | exact HI0.out)) hb); have n5_ := kB BK173 hb; have n6_ := Aside0.mk (KeepBut.trans (by repeat (first | (with_reducible first | exact HK.out | apply KeepBut.set_ | apply keep_drewN | apply keep_drew | apply keep_alloc | refine keep_far ?_ GW144.out _ | refine keep_far ?_ GW148.out _ | refine keep_far ?_ GW173.out _) | exact HK.out)) (KeepBut.of_below hb g none) (.inl rfl)); have n7_ := Aside0.mk (below_step (by repeat (first | (with_reducible first | exact HB.out | apply below_alloc | apply pw_below_drewN | apply below_drew1 | refine below_set ?_ (IsS77.ge HI0.out) | refine below_set ?_ GE144.out | refine below_set ?_ GE148.out | refine below_set ?_ GE173.out) | exact HB.out)) hb); clear HO_149001; clear HO_149002; clear BK144; clear BK148; clear HI0; clear BK173; clear HK; clear HB; have HO_149001 := n0_; have HO_149002 := n1_; have BK144 := n2_; have BK148 := n3_; have HI0 := n4_; have BK173 := n5_; have HK := n6_; have HB := n7_; clear n0_ n1_ n2_ n3_ n4_ n5_ n6_ n7_; (try clear hb)))
          go_roundg k3
          case measure => have := HK1.out; have := HJ11.out; have := HK3.out; omega
          case rel => exact ⟨(wrap64 (x7_3 + 1)), (t171), (t172), (x149002_3), (.slice Ao70 x149002_3.length co70), zF, H', ⟨by have := HK1.out; have := HJ11.out; have := HK3.out; omega⟩, ⟨zR HO_149001⟩, ⟨by (with_reducible repeat (first | apply Kd.R_alloc | apply Kd.R_drewN | apply Kd.R_drew)); exact Kd.R_mono HO_149002.out (fun _ hk => trivial)⟩, ⟨zK BK144⟩, ⟨zK BK148⟩, ⟨by repeat (first | (with_reducible first | exact HI0.out | apply IsS77.alloc | apply IsS77.drewN | apply IsS77.drew | apply IsS77.set_1 | apply IsS77.set_2 | refine IsS77.far ?_ NB0_144.out _ | refine IsS77.far ?_ NB0_148.out _ | refine IsS77.far ?_ NB0_173.out _) | exact HI0.out)⟩, ⟨by repeat (first | (with_reducible first | exact HK.out | apply KeepBut.set_ | apply keep_drewN | apply keep_drew | apply keep_alloc | refine keep_far ?_ GW144.out _ | refine keep_far ?_ GW148.out _ | refine keep_far ?_ GW173.out _) | exact HK.out)⟩, ⟨by repeat (first | (with_reducible first | exact HB.out | apply below_alloc | apply pw_below_drewN | apply below_drew1 | refine below_set ?_ (IsS77.ge HI0.out) | refine below_set ?_ GE144.out | refine below_set ?_ GE148.out | refine below_set ?_ GE173.out) | exact HB.out)⟩⟩
        ·rw [if_neg c21] at H
         have c21b0 : decide (x7_3 < x6_11) = false := decide_eq_false c21
         clear c21
         by_cases c72 : x6_11 = 0
         ·rw [if_pos c72] at H
          have c72b0 : (x6_11 == 0) = true := beq_iff_eq.mpr c72
          have c72b1 : (x6_11 != 0) = false := bne_eq_false_iff_eq.mpr c72
          clear c72
          by_cases c73 : x149001_1.length < 140737488355328
          ·rw [if_pos c73] at H
           have LMc73 := Aside0.mk c73
           clear c73
           obtain ⟨y158, hy158⟩ : ∃ y_ : List Bool, y_ = (x149001_1 ++ [true]) := ⟨_, rfl⟩
           replace H : (spec_l13Draw.l0 k3 (wrap64 (x4_1 + 1)) s0_0 x1001_3 x1002_3 (wrap64 (1 + t145)) y158 x149002_3) = some (r1, r2, r3, r4, r5) := by first | (rw [hy158]; with_reducible exact H) | (have H2_ := (Option.bind_some _ _).symm.trans H; rw [hy158]; with_reducible exact H2_) | (have H2_ := (Option.bind_some _ _).symm.trans H; with_reducible exact H2_) | with_reducible exact H | (rw [hy158]; exact H) | exact H
           have Ny158 := Aside0.mk hy158
           clear hy158
           have H' := Aside0.mk H
           clear H
           try go_wp2
           have n0_ := Aside0.mk (Kd.R_drew HO_149001.out)
           have n1_ := Aside0.mk (Kd.R_drew HO_149002.out)
           have n2_ := Aside0.mk (blk_drew BK144.out)
           have n3_ := Aside0.mk (blk_drew BK148.out)
           have n4_ := Aside0.mk (IsS77.drew HI0.out)
           have n5_ := Aside0.mk (keep_drew HK.out)
           have n6_ := Aside0.mk (below_drew1 HB.out)
           clear HO_149001
           clear HO_149002
           clear BK144
           clear BK148
           clear HI0
           clear HK
           clear HB
           have HO_149001 := n0_
           have HO_149002 := n1_
           have BK144 := n2_
           have BK148 := n3_
           have HI0 := n4_
           have HK := n5_
           have HB := n6_
           clear n0_ n1_ n2_ n3_ n4_ n5_ n6_
           refine start_ (n := 12) (S := fun w' => w'.cell? ⟨gb148, 0, none⟩ = some (.int .i64 (wrap64 (1 + t145))) ∧ w'.cell? ⟨gb148, 1, none⟩ = some (u149001) ∧ w'.cell? ⟨gb148, 2, none⟩ = some (u149002)) (ds := [11]) (bm 12 0) (by kernel_rfl) rfl (bm0 _) ⟨bc0 BK148, bc1 BK148, bc2 BK148⟩ (fun hHeld => ?_); refine with_tabW spec_l13Draw.tab15 spec_l13Draw.bits15 (fun HT_ HW_ => ?_)
           generalize wr.drew = w74 at HO_149001 HO_149002 BK144 BK148 HI0 HK HB hHeld ⊢
           refine pure_ (i := 0) (N := some 55) (v := ?_) (a' := ?_) (bm 12 1) rfl rfl (any_of HT_.out (by kernel_rfl)) (fun _ _ _ h => h) (Or.inl ⟨by rfl, ?_⟩) ?_ ?_
           rotate_left
           ·intro w'
            go_simp
            with_reducible rfl
           rotate_left
           ·simp only [Act.put, List.setIfInBounds_toArray, List.set_cons_zero, List.set_cons_succ, i64_w, i32_w]
            rfl
           refine pure_ (i := 2) (N := some 57) (v := ?_) (a' := ?_) (bm 12 5) rfl rfl (any_of HT_.out (by kernel_rfl)) (fun _ _ _ h => h) (Or.inl ⟨by rfl, ?_⟩) ?_ ?_
           rotate_left
           ·intro w'
            go_simp
            with_reducible rfl
           rotate_left
           ·simp only [Act.put, List.setIfInBounds_toArray, List.set_cons_zero, List.set_cons_succ, i64_w, i32_w]
            rfl
           refine pure_ (i := 3) (N := some 58) (v := ?_) (a' := ?_) (bm 12 13) rfl rfl (any_of HT_.out (by kernel_rfl)) (fun _ _ _ h => h) (Or.inl ⟨by rfl, ?_⟩) ?_ ?_
           rotate_left
           ·intro w'
            go_simp
            with_reducible rfl
           rotate_left
           ·simp only [Act.put, List.setIfInBounds_toArray, List.set_cons_zero, List.set_cons_succ, i64_w, i32_w]
            rfl
           refine pure_ (i := 4) (N := some 59) (v := ?_) (a' := ?_) (bm 12 29) rfl rfl (any_of HT_.out (by kernel_rfl)) (fun _ _ _ h => h) (Or.inl ⟨by rfl, ?_⟩) ?_ ?_
           rotate_left
           ·intro w'
            go_simp
            with_reducible rfl
           rotate_left
           ·simp only [Act.put, List.setIfInBounds_toArray, List.set_cons_zero, List.set_cons_succ, i64_w, i32_w]
            rfl
           refine pure_ (i := 5) (N := some 60) (v := undef) (a' := ?_) (bm 12 61) rfl rfl (any_of HT_.out (by kernel_rfl)) (fun _ _ _ h => h) (Or.inr ⟨by rfl, rfl⟩) ?_ ?_
           rotate_left
           ·simp only [Act.put, List.setIfInBounds_toArray, List.set_cons_zero, List.set_cons_succ, i64_w, i32_w]
            rfl
           refine pure_ (i := 6) (N := some 61) (v := undef) (a' := ?_) (bm 12 125) rfl rfl (any_of HT_.out (by kernel_rfl)) (fun _ _ _ h => h) (Or.inr ⟨by rfl, rfl⟩) ?_ ?_
           rotate_left
           ·simp only [Act.put, List.setIfInBounds_toArray, List.set_cons_zero, List.set_cons_succ, i64_w, i32_w]
            rfl
           refine pure_ (i := 7) (N := some 62) (v := ?_) (a' := ?_) (bm 12 253) rfl rfl (any_of HT_.out (by kernel_rfl)) (fun _ _ _ h => h) (Or.inl ⟨by rfl, ?_⟩) ?_ ?_
           rotate_left
           ·intro w'
            go_simp
            with_reducible rfl
           rotate_left
           ·simp only [Act.put, List.setIfInBounds_toArray, List.set_cons_zero, List.set_cons_succ, i64_w, i32_w]
            rfl
           refine take_ (i := 1) (N := some 56) (v := ?_) (a' := ?_) (bm 12 255) rfl rfl (take_ofW HT_.out HW_.out (by kernel_rfl)) (fun _ _ _ h => h) (Or.inl ⟨by rfl, ?_⟩) hHeld ?_ ?_
           rotate_left
           ·rintro w' ⟨s0, s1, s2⟩
            go_simp
            with_reducible rfl
           rotate_left
           ·simp only [Act.put, List.setIfInBounds_toArray, List.set_cons_zero, List.set_cons_succ, i64_w, i32_w]
            rfl
           refine one_ (i := 8) (N := some 63) (bm 12 511) rfl rfl (one_of HT_.out (by kernel_rfl)) (by decide) (fun K hK => ?_)
           refine value_ (w1 := ?_) (v := ?_) (by rfl) rfl ?_ ?_
           rotate_left 2
           ·go_simp
            constructor
            ·rfl
            ·rfl
           refine hK.out _ _ ⟨(blk_cell (blk_alloc BK148.out _) 0).trans rfl, (blk_cell (blk_alloc BK148.out _) 1).trans rfl, (blk_cell (blk_alloc BK148.out _) 2).trans rfl⟩ (fun hHeld => ?_)
           clear hK K
           refine norm_ (a' := ?_) ?_ ?_
           rotate_left
           ·show Act.put _ (some 63) _ = _
            simp only [Act.put, List.setIfInBounds_toArray, List.set_cons_zero, List.set_cons_succ, i64_w, i32_w]
            rfl
           refine one_ (i := 9) (N := some 64) (bm 12 1023) rfl rfl (one_of HT_.out (by kernel_rfl)) (by decide) (fun K hK => ?_)
           refine Kd.R_append_step Kd.bool w.heap.size (by rfl) (.tmp 56) (.tmp 63) 22 4 (.bool false) 1 rfl Try.underlying22 info4 rfl (by decide) (by omega) u149001 x149001_1 true [.bool true] (fun _ => True) (fun _ => False) rfl rfl ?aP (fun _ hk => hk.elim) ?aF ?aO (Below.refl _ _) ?aS ?aL ?_
           (case aP => exact rfl)
           (case aF => exact (fun _ _ => trivial))
           (case aO => exact (zR HO_149001))
           (case aS => exact (keep_size (w := w) (g := g) (row := none) (by repeat (first | (with_reducible first | exact HK.out | apply KeepBut.set_ | apply keep_drewN | apply keep_drew | apply keep_alloc | refine keep_far ?_ GW144.out _ | refine keep_far ?_ GW148.out _) | exact HK.out))))
           (case aL => have := LMc73.out; omega)
           intro v159 w75 ho hb hg hat
           rw [← Ny158.out] at ho
           have n0_ := Aside0.mk (Kd.R_over' (zR HO_149002) (Kd.R_typed (zR HO_149001)) (by decide) hg)
           have n1_ := Aside0.mk (blk_grown (g := gb144) (o := .cells #[.int .i64 0, .slice none 0 0, .slice none 0 0] 29 (0, 0)) (zK BK144) hg (Kd.R_ne HO_149001.out BK144.out (by decide)))
           have n2_ := Aside0.mk (blk_grown (g := gb148) (o := .cells #[.int .i64 (wrap64 (1 + t145)), u149001, u149002] 29 (0, 0)) (zK BK148) hg (Kd.R_ne HO_149001.out BK148.out (by decide)))
           have n3_ := Aside0.mk (IsS77.grown (by repeat (first | (with_reducible first | exact HI0.out | apply IsS77.alloc | apply IsS77.drewN | apply IsS77.drew | apply IsS77.set_1 | apply IsS77.set_2 | refine IsS77.far ?_ NB0_144.out _ | refine IsS77.far ?_ NB0_148.out _) | exact HI0.out)) hg (IsS77.own_ne HI0.out HO_149001.out (by decide)))
           have n4_ := Aside0.mk (below_weaken (by repeat (first | (with_reducible first | exact HB.out | apply below_alloc | apply pw_below_drewN | apply below_drew1 | refine below_set ?_ (IsS77.ge HI0.out) | refine below_set ?_ GE144.out | refine below_set ?_ GE148.out) | exact HB.out)) HL.out hb)
           have n5_ := Aside0.mk (KeepBut.trans (by repeat (first | (with_reducible first | exact HK.out | apply KeepBut.set_ | apply keep_drewN | apply keep_drew | apply keep_alloc | refine keep_far ?_ GW144.out _ | refine keep_far ?_ GW148.out _) | exact HK.out)) (KeepBut.of_grown hg g) (Kd.R_base2 HO_149001.out))
           have n6_ := Aside0.mk (ho)
           clear HO_149002
           clear BK144
           clear BK148
           clear HI0
           clear HB
           clear HK
           clear HO_149001
           have HO_149002 := n0_
           have BK144 := n1_
           have BK148 := n2_
           have HI0 := n3_
           have HB := n4_
           have HK := n5_
           have HO160 := n6_
           clear n0_ n1_ n2_ n3_ n4_ n5_ n6_
           clear ho hb hg hat
           obtain ⟨Ao76, co76, eo76⟩ := Kd.R_slice HO160.out
           (first | subst eo76 | (injection eo76 with f1_ f2_ f3_; have f4_ := f1_.symm; have f5_ := f3_.symm; clear f1_ f2_ f3_; subst f4_; subst f5_))
           refine hK.out _ _ ⟨bc0 BK148, bc1 BK148, bc2 BK148⟩ (fun hHeld => ?_)
           clear hK K
           refine norm_ (a' := ?_) ?_ ?_
           rotate_left
           ·show Act.put _ (some 64) _ = _
            simp only [Act.put, List.setIfInBounds_toArray, List.set_cons_zero, List.set_cons_succ, i64_w, i32_w]
            rfl
           refine pure_ (i := 10) (N := some 65) (v := ?_) (a' := ?_) (bm 12 2047) rfl rfl (any_of HT_.out (by kernel_rfl)) (fun _ _ _ h => h) (Or.inl ⟨by rfl, ?_⟩) ?_ ?_
           rotate_left
           ·intro w'
            go_simp
            with_reducible rfl
           rotate_left
           ·simp only [Act.put, List.setIfInBounds_toArray, List.set_cons_zero, List.set_cons_succ, i64_w, i32_w]
            rfl
           refine last_ (i := 11) (N := none) (bm 12 4095) rfl rfl (one_of HT_.out (by kernel_rfl)) (by decide) (fun K hK => ?_)
           have hs77 : w75.cell? ⟨gb148, 1, none⟩ = some (u149001) := bc1 BK148
           have hfs77 := bf BK148 1
           have hns77_0 := NB144_148.out
           have hms77_0 := NB148_144.out
           refine skip_ (w1 := ?_) (by rfl) rfl ?_ ?_
           rotate_left
           ·go_simp
            rfl
           refine hK.out _ _ ?_
           clear hK K
           refine done_ (done_of HT_.out (by kernel_rfl)) ?_
           try clear hHeld
           try go_wp2
           go_roundg k3
           case measure => have := HK1.out; have := HJ11.out; have := HK3.out; omega
           case rel => exact ⟨(wrap64 (x4_1 + 1)), (x1001_3), (x1002_3), (y158), (x149002_3), (.slice Ao76 y158.length co76), (u149002), zF, H', ⟨by have := HK1.out; have := HJ11.out; have := HK3.out; omega⟩, ⟨by (with_reducible repeat (first | apply Kd.R_alloc | apply Kd.R_drewN | apply Kd.R_drew)); exact Kd.R_mono (Kd.R_far (p := ⟨gb148, 1, none⟩) (Kd.R_types HO160.out BK148.out (by decide)) (fun _ hk => hk.2) (.slice Ao76 y158.length co76)) (fun _ hk => trivial)⟩, ⟨by (with_reducible repeat (first | apply Kd.R_alloc | apply Kd.R_drewN | apply Kd.R_drew)); exact Kd.R_mono (Kd.R_far (p := ⟨gb148, 1, none⟩) (Kd.R_types HO_149002.out BK148.out (by decide)) (fun _ hk => hk.2) (.slice Ao76 y158.length co76)) (fun _ hk => trivial)⟩, ⟨by (with_reducible repeat (first | refine blk_drewN ?_ _ | refine blk_drew ?_ | refine blk_alloc ?_ _)); refine blk_far ?_ NB144_148.out _; (with_reducible repeat (first | refine blk_drewN ?_ _ | refine blk_drew ?_ | refine blk_alloc ?_ _)); exact BK144.out⟩, ⟨by (with_reducible repeat (first | refine blk_drewN ?_ _ | refine blk_drew ?_ | refine blk_alloc ?_ _)); refine blk_put (cs := #[.int .i64 (wrap64 (1 + t145)), u149001, u149002]) ?_ 1 _ rfl; (with_reducible repeat (first | refine blk_drewN ?_ _ | refine blk_drew ?_ | refine blk_alloc ?_ _)); exact BK148.out⟩, ⟨by repeat (first | (with_reducible first | exact HI0.out | apply IsS77.alloc | apply IsS77.drewN | apply IsS77.drew | apply IsS77.set_1 | apply IsS77.set_2 | refine IsS77.far ?_ NB0_144.out _ | refine IsS77.far ?_ NB0_148.out _) | exact HI0.out)⟩, ⟨by repeat (first | (with_reducible first | exact HK.out | apply KeepBut.set_ | apply keep_drewN | apply keep_drew | apply keep_alloc | refine keep_far ?_ GW144.out _ | refine keep_far ?_ GW148.out _) | exact HK.out)⟩, ⟨by repeat (first | (with_reducible first | exact HB.out | apply below_alloc | apply pw_below_drewN | apply below_drew1 | refine below_set ?_ (IsS77.ge HI0.out) | refine below_set ?_ GE144.out | refine below_set ?_ GE148.out) | exact HB.out)⟩⟩
          ·rw [if_neg c73] at H
           exact absurd H (by simp)
         ·rw [if_neg c72] at H
          have c72b0 : (x6_11 == 0) = false := beq_eq_false_iff_ne.mpr c72
          have c72b1 : (x6_11 != 0) = true := bne_iff_ne.mpr c72
          replace H := Option.bind_eq_some_iff.mp H
          obtain ⟨⟨t161, t162, t163⟩, A780, H⟩ := H
          replace H : (if x149001_1.length < 140737488355328 then (spec_l13Draw.l0 k3 (wrap64 (x4_1 + 1)) s0_0 t162 t163 (wrap64 (1 + t145)) (x149001_1 ++ [t161]) x149002_3) else (none)) = some (r1, r2, r3, r4, r5) := H
          have A78 := Aside0.mk A780
          clear A780
          by_cases c79 : x149001_1.length < 140737488355328
          ·rw [if_pos c79] at H
           have LMc79 := Aside0.mk c79
           clear c79
           obtain ⟨y164, hy164⟩ : ∃ y_ : List Bool, y_ = (x149001_1 ++ [t161]) := ⟨_, rfl⟩
           replace H : (spec_l13Draw.l0 k3 (wrap64 (x4_1 + 1)) s0_0 t162 t163 (wrap64 (1 + t145)) y164 x149002_3) = some (r1, r2, r3, r4, r5) := by first | (rw [hy164]; with_reducible exact H) | (have H2_ := (Option.bind_some _ _).symm.trans H; rw [hy164]; with_reducible exact H2_) | (have H2_ := (Option.bind_some _ _).symm.trans H; with_reducible exact H2_) | with_reducible exact H | (rw [hy164]; exact H) | exact H
           have Ny164 := Aside0.mk hy164
           clear hy164
           have H' := Aside0.mk H
           clear H
           try go_wp2
           have n0_ := Aside0.mk (Kd.R_drew HO_149001.out)
           have n1_ := Aside0.mk (Kd.R_drew HO_149002.out)
           have n2_ := Aside0.mk (blk_drew BK144.out)
           have n3_ := Aside0.mk (blk_drew BK148.out)
           have n4_ := Aside0.mk (IsS77.drew HI0.out)
           have n5_ := Aside0.mk (keep_drew HK.out)
           have n6_ := Aside0.mk (below_drew1 HB.out)
           clear HO_149001
           clear HO_149002
           clear BK144
           clear BK148
           clear HI0
           clear HK
           clear HB
           have HO_149001 := n0_
           have HO_149002 := n1_
           have BK144 := n2_
           have BK148 := n3_
           have HI0 := n4_
           have HK := n5_
           have HB := n6_
           clear n0_ n1_ n2_ n3_ n4_ n5_ n6_
           refine start_ (n := 12) (S := fun w' => w'.cell? ⟨gb148, 0, none⟩ = some (.int .i64 (wrap64 (1 + t145))) ∧ w'.cell? ⟨gb148, 1, none⟩ = some (u149001) ∧ w'.cell? ⟨gb148, 2, none⟩ = some (u149002)) (ds := [11]) (bm 12 0) (by kernel_rfl) rfl (bm0 _) ⟨bc0 BK148, bc1 BK148, bc2 BK148⟩ (fun hHeld => ?_); refine with_tabW spec_l13Draw.tab15 spec_l13Draw.bits15 (fun HT_ HW_ => ?_)
           generalize wr.drew = w80 at HO_149001 HO_149002 BK144 BK148 HI0 HK HB hHeld ⊢
           refine pure_ (i := 0) (N := some 55) (v := ?_) (a' := ?_) (bm 12 1) rfl rfl (any_of HT_.out (by kernel_rfl)) (fun _ _ _ h => h) (Or.inl ⟨by rfl, ?_⟩) ?_ ?_
           rotate_left
           ·intro w'
            go_simp
            with_reducible rfl
           rotate_left
           ·simp only [Act.put, List.setIfInBounds_toArray, List.set_cons_zero, List.set_cons_succ, i64_w, i32_w]
            rfl
           refine pure_ (i := 2) (N := some 57) (v := ?_) (a' := ?_) (bm 12 5) rfl rfl (any_of HT_.out (by kernel_rfl)) (fun _ _ _ h => h) (Or.inl ⟨by rfl, ?_⟩) ?_ ?_
           rotate_left
           ·intro w'
            go_simp
            with_reducible rfl
           rotate_left
           ·simp only [Act.put, List.setIfInBounds_toArray, List.set_cons_zero, List.set_cons_succ, i64_w, i32_w]
            rfl
           refine pure_ (i := 3) (N := some 58) (v := ?_) (a' := ?_) (bm 12 13) rfl rfl (any_of HT_.out (by kernel_rfl)) (fun _ _ _ h => h) (Or.inl ⟨by rfl, ?_⟩) ?_ ?_
           rotate_left
           ·intro w'
            go_simp
            with_reducible rfl
           rotate_left
           ·simp only [Act.put, List.setIfInBounds_toArray, List.set_cons_zero, List.set_cons_succ, i64_w, i32_w]
            rfl
           refine pure_ (i := 4) (N := some 59) (v := ?_) (a' := ?_) (bm 12 29) rfl rfl (any_of HT_.out (by kernel_rfl)) (fun _ _ _ h => h) (Or.inl ⟨by rfl, ?_⟩) ?_ ?_
           rotate_left
           ·intro w'
            go_simp
            with_reducible rfl
           rotate_left
           ·simp only [Act.put, List.setIfInBounds_toArray, List.set_cons_zero, List.set_cons_succ, i64_w, i32_w]
            rfl
           refine pure_ (i := 5) (N := some 60) (v := ?_) (a' := ?_) (bm 12 61) rfl rfl (any_of HT_.out (by kernel_rfl)) (fun _ _ _ h => h) (Or.inl ⟨by rfl, ?_⟩) ?_ ?_
           rotate_left
           ·intro w'
            go_simp
            with_reducible rfl
           rotate_left
           ·simp only [Act.put, List.setIfInBounds_toArray, List.set_cons_zero, List.set_cons_succ, i64_w, i32_w]
            rfl
           refine take_ (i := 1) (N := some 56) (v := ?_) (a' := ?_) (bm 12 63) rfl rfl (take_ofW HT_.out HW_.out (by kernel_rfl)) (fun _ _ _ h => h) (Or.inl ⟨by rfl, ?_⟩) hHeld ?_ ?_
           rotate_left
           ·rintro w' ⟨s0, s1, s2⟩
            go_simp
            with_reducible rfl
           rotate_left
           ·simp only [Act.put, List.setIfInBounds_toArray, List.set_cons_zero, List.set_cons_succ, i64_w, i32_w]
            rfl
           refine one_ (i := 6) (N := some 61) (bm 12 127) rfl rfl (one_of HT_.out (by kernel_rfl)) (by decide) (fun K hK => ?_)
           refine goes_ Try.func39 (by kernel_rfl) rfl #[.pointer (some ⟨g, 0, none⟩), .int .i64 4] (by rfl) rfl rfl zG ?_
           with_reducible refine (spec_l1Once.calls g s0_0 x1001_3 x1002_3 4 t161 t162 t163 w0 _ ?side1 ?side2 A78.out).mono ?_
           (case side1 => repeat (first | (with_reducible first | exact HI0.out | apply IsS77.alloc | apply IsS77.drewN | apply IsS77.drew | apply IsS77.set_1 | apply IsS77.set_2 | refine IsS77.far ?_ NB0_144.out _ | refine IsS77.far ?_ NB0_148.out _) | exact HI0.out))
           (case side2 => repeat (first | (with_reducible first | exact HB.out | apply below_alloc | apply pw_below_drewN | apply below_drew1 | refine below_set ?_ (IsS77.ge HI0.out) | refine below_set ?_ GE144.out | refine below_set ?_ GE148.out) | exact HB.out))
           rintro e w81 ⟨rfl, hi, hb, hk⟩
           refine ⟨_, rfl, ?_⟩
           have n0_ := Aside0.mk (Kd.R_mono (Kd.R_keep (IsS77.apart (show IsS77 w0 _ g s0_0 x1001_3 x1002_3 from by repeat (first | (with_reducible first | exact HI0.out | apply IsS77.alloc | apply IsS77.drewN | apply IsS77.drew | apply IsS77.set_1 | apply IsS77.set_2 | refine IsS77.far ?_ NB0_144.out _ | refine IsS77.far ?_ NB0_148.out _) | exact HI0.out)) (zR HO_149001) (by decide)) hk (fun _ h => h.2)) (fun _ h => h.1))
           have n1_ := Aside0.mk (Kd.R_mono (Kd.R_keep (IsS77.apart (show IsS77 w0 _ g s0_0 x1001_3 x1002_3 from by repeat (first | (with_reducible first | exact HI0.out | apply IsS77.alloc | apply IsS77.drewN | apply IsS77.drew | apply IsS77.set_1 | apply IsS77.set_2 | refine IsS77.far ?_ NB0_144.out _ | refine IsS77.far ?_ NB0_148.out _) | exact HI0.out)) (zR HO_149002) (by decide)) hk (fun _ h => h.2)) (fun _ h => h.1))
           have n2_ := Aside0.mk (KeepBut.blk hk (g' := gb144) (o := .cells #[.int .i64 0, .slice none 0 0, .slice none 0 0] 29 (0, 0)) (zK BK144) NB144_0.out (by simp))
           have n3_ := Aside0.mk (KeepBut.blk hk (g' := gb148) (o := .cells #[.int .i64 (wrap64 (1 + t145)), u149001, u149002] 29 (0, 0)) (zK BK148) NB148_0.out (by simp))
           have n4_ := Aside0.mk (KeepBut.trans (by repeat (first | (with_reducible first | exact HK.out | apply KeepBut.set_ | apply keep_drewN | apply keep_drew | apply keep_alloc | refine keep_far ?_ GW144.out _ | refine keep_far ?_ GW148.out _) | exact HK.out)) hk (.inl rfl))
           have n5_ := Aside0.mk (hb)
           have n6_ := Aside0.mk (hi)
           clear HO_149001
           clear HO_149002
           clear BK144
           clear BK148
           clear HK
           clear HB
           clear HI0
           have HO_149001 := n0_
           have HO_149002 := n1_
           have BK144 := n2_
           have BK148 := n3_
           have HK := n4_
           have HB := n5_
           have HI0 := n6_
           clear n0_ n1_ n2_ n3_ n4_ n5_ n6_
           (try clear hb)
           (try clear hb2)
           (try clear hk)
           (try clear hi)
           refine hK.out _ _ ⟨bc0 BK148, bc1 BK148, bc2 BK148⟩ (fun hHeld => ?_)
           clear hK K
           refine norm_ (a' := ?_) ?_ ?_
           rotate_left
           ·show Act.put _ (some 61) _ = _
            simp only [Act.put, List.setIfInBounds_toArray, List.set_cons_zero, List.set_cons_succ, i64_w, i32_w]
            rfl
           refine pure_ (i := 7) (N := some 62) (v := ?_) (a' := ?_) (bm 12 255) rfl rfl (any_of HT_.out (by kernel_rfl)) (fun _ _ _ h => h) (Or.inl ⟨by rfl, ?_⟩) ?_ ?_
           rotate_left
           ·intro w'
            go_simp
            with_reducible rfl
           rotate_left
           ·simp only [Act.put, List.setIfInBounds_toArray, List.set_cons_zero, List.set_cons_succ, i64_w, i32_w]
            rfl
           refine one_ (i := 8) (N := some 63) (bm 12 511) rfl rfl (one_of HT_.out (by kernel_rfl)) (by decide) (fun K hK => ?_)
           refine value_ (w1 := ?_) (v := ?_) (by rfl) rfl ?_ ?_
           rotate_left 2
           ·go_simp
            constructor
            ·rfl
            ·rfl
           refine hK.out _ _ ⟨(blk_cell (blk_alloc BK148.out _) 0).trans rfl, (blk_cell (blk_alloc BK148.out _) 1).trans rfl, (blk_cell (blk_alloc BK148.out _) 2).trans rfl⟩ (fun hHeld => ?_)
           clear hK K
           refine norm_ (a' := ?_) ?_ ?_
           rotate_left
           ·show Act.put _ (some 63) _ = _
            simp only [Act.put, List.setIfInBounds_toArray, List.set_cons_zero, List.set_cons_succ, i64_w, i32_w]
            rfl
           refine one_ (i := 9) (N := some 64) (bm 12 1023) rfl rfl (one_of HT_.out (by kernel_rfl)) (by decide) (fun K hK => ?_)
           refine Kd.R_append_step Kd.bool w.heap.size (by rfl) (.tmp 56) (.tmp 63) 22 4 (.bool false) 1 rfl Try.underlying22 info4 rfl (by decide) (by omega) u149001 x149001_1 t161 [.bool t161] (fun _ => True) (fun _ => False) rfl rfl ?aP (fun _ hk => hk.elim) ?aF ?aO (Below.refl _ _) ?aS ?aL ?_
           (case aP => exact rfl)
           (case aF => exact (fun _ _ => trivial))
           (case aO => exact (zR HO_149001))
           (case aS => exact (keep_size (w := w) (g := g) (row := none) (by repeat (first | (with_reducible first | exact HK.out | apply KeepBut.set_ | apply keep_drewN | apply keep_drew | apply keep_alloc | refine keep_far ?_ GW144.out _ | refine keep_far ?_ GW148.out _) | exact HK.out))))
           (case aL => have := LMc79.out; omega)
           intro v165 w82 ho hb hg hat
           rw [← Ny164.out] at ho
           have n0_ := Aside0.mk (Kd.R_over' (zR HO_149002) (Kd.R_typed (zR HO_149001)) (by decide) hg)
           have n1_ := Aside0.mk (blk_grown (g := gb144) (o := .cells #[.int .i64 0, .slice none 0 0, .slice none 0 0] 29 (0, 0)) (zK BK144) hg (Kd.R_ne HO_149001.out BK144.out (by decide)))
           have n2_ := Aside0.mk (blk_grown (g := gb148) (o := .cells #[.int .i64 (wrap64 (1 + t145)), u149001, u149002] 29 (0, 0)) (zK BK148) hg (Kd.R_ne HO_149001.out BK148.out (by decide)))
           have n3_ := Aside0.mk (IsS77.grown (by repeat (first | (with_reducible first | exact HI0.out | apply IsS77.alloc | apply IsS77.drewN | apply IsS77.drew | apply IsS77.set_1 | apply IsS77.set_2 | refine IsS77.far ?_ NB0_144.out _ | refine IsS77.far ?_ NB0_148.out _) | exact HI0.out)) hg (IsS77.own_ne HI0.out HO_149001.out (by decide)))
           have n4_ := Aside0.mk (below_weaken (by repeat (first | (with_reducible first | exact HB.out | apply below_alloc | apply pw_below_drewN | apply below_drew1 | refine below_set ?_ (IsS77.ge HI0.out) | refine below_set ?_ GE144.out | refine below_set ?_ GE148.out) | exact HB.out)) HL.out hb)
           have n5_ := Aside0.mk (KeepBut.trans (by repeat (first | (with_reducible first | exact HK.out | apply KeepBut.set_ | apply keep_drewN | apply keep_drew | apply keep_alloc | refine keep_far ?_ GW144.out _ | refine keep_far ?_ GW148.out _) | exact HK.out)) (KeepBut.of_grown hg g) (Kd.R_base2 HO_149001.out))
           have n6_ := Aside0.mk (ho)
           clear HO_149002
           clear BK144
           clear BK148
           clear HI0
           clear HB
           clear HK
           clear HO_149001
           have HO_149002 := n0_
           have BK144 := n1_
           have BK148 := n2_
           have HI0 := n3_
           have HB := n4_
           have HK := n5_
           have HO166 := n6_
           clear n0_ n1_ n2_ n3_ n4_ n5_ n6_
           clear ho hb hg hat
           obtain ⟨Ao83, co83, eo83⟩ := Kd.R_slice HO166.out
           (first | subst eo83 | (injection eo83 with f1_ f2_ f3_; have f4_ := f1_.symm; have f5_ := f3_.symm; clear f1_ f2_ f3_; subst f4_; subst f5_))
           refine hK.out _ _ ⟨bc0 BK148, bc1 BK148, bc2 BK148⟩ (fun hHeld => ?_)
           clear hK K
           refine norm_ (a' := ?_) ?_ ?_
           rotate_left
           ·show Act.put _ (some 64) _ = _
            simp only [Act.put, List.setIfInBounds_toArray, List.set_cons_zero, List.set_cons_succ, i64_w, i32_w]
            rfl
           refine pure_ (i := 10) (N := some 65) (v := ?_) (a' := ?_) (bm 12 2047) rfl rfl (any_of HT_.out (by kernel_rfl)) (fun _ _ _ h => h) (Or.inl ⟨by rfl, ?_⟩) ?_ ?_
           rotate_left
           ·intro w'
            go_simp
            with_reducible rfl
           rotate_left
           ·simp only [Act.put, List.setIfInBounds_toArray, List.set_cons_zero, List.set_cons_succ, i64_w, i32_w]
            rfl
           refine last_ (i := 11) (N := none) (bm 12 4095) rfl rfl (one_of HT_.out (by kernel_rfl)) (by decide) (fun K hK => ?_)
           have hs84 : w82.cell? ⟨gb148, 1, none⟩ = some (u149001) := bc1 BK148
           have hfs84 := bf BK148 1
           have hns84_0 := NB144_148.out
           have hms84_0 := NB148_144.out
           refine skip_ (w1 := ?_) (by rfl) rfl ?_ ?_
           rotate_left
           ·go_simp
            rfl
           refine hK.out _ _ ?_
           clear hK K
           refine done_ (done_of HT_.out (by kernel_rfl)) ?_
           try clear hHeld
           try go_wp2
           go_roundg k3
           case measure => have := HK1.out; have := HJ11.out; have := HK3.out; omega
           case rel => exact ⟨(wrap64 (x4_1 + 1)), (t162), (t163), (y164), (x149002_3), (.slice Ao83 y164.length co83), (u149002), zF, H', ⟨by have := HK1.out; have := HJ11.out; have := HK3.out; omega⟩, ⟨by (with_reducible repeat (first | apply Kd.R_alloc | apply Kd.R_drewN | apply Kd.R_drew)); exact Kd.R_mono (Kd.R_far (p := ⟨gb148, 1, none⟩) (Kd.R_types HO166.out BK148.out (by decide)) (fun _ hk => hk.2) (.slice Ao83 y164.length co83)) (fun _ hk => trivial)⟩, ⟨by (with_reducible repeat (first | apply Kd.R_alloc | apply Kd.R_drewN | apply Kd.R_drew)); exact Kd.R_mono (Kd.R_far (p := ⟨gb148, 1, none⟩) (Kd.R_types HO_149002.out BK148.out (by decide)) (fun _ hk => hk.2) (.slice Ao83 y164.length co83)) (fun _ hk => trivial)⟩, ⟨by (with_reducible repeat (first | refine blk_drewN ?_ _ | refine blk_drew ?_ | refine blk_alloc ?_ _)); refine blk_far ?_ NB144_148.out _; (with_reducible repeat (first | refine blk_drewN ?_ _ | refine blk_drew ?_ | refine blk_alloc ?_ _)); exact BK144.out⟩, ⟨by (with_reducible repeat (first | refine blk_drewN ?_ _ | refine blk_drew ?_ | refine blk_alloc ?_ _)); refine blk_put (cs := #[.int .i64 (wrap64 (1 + t145)), u149001, u149002]) ?_ 1 _ rfl; (with_reducible repeat (first | refine blk_drewN ?_ _ | refine blk_drew ?_ | refine blk_alloc ?_ _)); exact BK148.out⟩, ⟨by repeat (first | (with_reducible first | exact HI0.out | apply IsS77.alloc | apply IsS77.drewN | apply IsS77.drew | apply IsS77.set_1 | apply IsS77.set_2 | refine IsS77.far ?_ NB0_144.out _ | refine IsS77.far ?_ NB0_148.out _) | exact HI0.out)⟩, ⟨by repeat (first | (with_reducible first | exact HK.out | apply KeepBut.set_ | apply keep_drewN | apply keep_drew | apply keep_alloc | refine keep_far ?_ GW144.out _ | refine keep_far ?_ GW148.out _) | exact HK.out)⟩, ⟨by repeat (first | (with_reducible first | exact HB.out | apply below_alloc | apply pw_below_drewN | apply below_drew1 | refine below_set ?_ (IsS77.ge HI0.out) | refine below_set ?_ GE144.out | refine below_set ?_ GE148.out) | exact HB.out)⟩⟩
          ·rw [if_neg c79] at H
           exact absurd H (by simp)
   ·rw [if_neg c9] at H
    have c9b0 : decide (x4_1 < (wrap64 (1 + t145))) = false := decide_eq_false c9
    clear c9
    simp only [Option.some.injEq, Prod.mk.injEq] at H
    obtain ⟨rfl, rfl, rfl, rfl, rfl⟩ := H
    have hnb85 := NB148_144.out
    have hnc85 := NB144_148.out
    have hnb86 := NB148_0.out
    have hnc86 := NB0_148.out
    have hcz87_0 := bc0 BK148
    have hcz87_1 := bc1 BK148
    have hcz87_2 := bc2 BK148
    have hfz87_0 := bf BK148 0
    have hfz87_1 := bf BK148 1
    have hfz87_2 := bf BK148 2
    have hnb88 := NB144_0.out
    have hnc88 := NB0_144.out
    have hcz89_0 := bc0 BK144
    have hcz89_1 := bc1 BK144
    have hcz89_2 := bc2 BK144
    have hfz89_0 := bf BK144 0
    have hfz89_1 := bf BK144 1
    have hfz89_2 := bf BK144 2
    obtain ⟨Ao90, co90, eo90⟩ := Kd.R_slice HO_149001.out
    subst eo90
    obtain ⟨Ao91, co91, eo91⟩ := Kd.R_slice HO_149002.out
    subst eo91
    go_wp2
    refine bodyPost_ret (results_cell_row rfl _ _ gb144 29 #[.int .i64 (wrap64 (1 + t145)), .slice Ao90 x149001_1.length co90, .slice Ao91 x149002_1.length co91] (0, 0) _ rfl (by (with_reducible repeat (first | refine blk_drewN ?_ _ | refine blk_drew ?_ | refine blk_alloc ?_ _)); refine blk_put (cs := #[.int .i64 (wrap64 (1 + t145)), .slice Ao90 x149001_1.length co90, .slice none 0 0]) ?_ 2 _ rfl; (with_reducible repeat (first | refine blk_drewN ?_ _ | refine blk_drew ?_ | refine blk_alloc ?_ _)); refine blk_put (cs := #[.int .i64 (wrap64 (1 + t145)), .slice none 0 0, .slice none 0 0]) ?_ 1 _ rfl; (with_reducible repeat (first | refine blk_drewN ?_ _ | refine blk_drew ?_ | refine blk_alloc ?_ _)); refine blk_put (cs := #[.int .i64 0, .slice none 0 0, .slice none 0 0]) ?_ 0 _ rfl; (with_reducible repeat (first | refine blk_drewN ?_ _ | refine blk_drew ?_ | refine blk_alloc ?_ _)); exact BK144.out) Try.underlying29 rfl (by kernel_rfl)) rfl ?_
    exact ⟨_, _, by first | rfl | (simp [errW_none, errW_some] <;> rfl) | (simp [*, errW_none, errW_some] <;> rfl), by (with_reducible repeat (first | apply Kd.R_alloc | apply Kd.R_drewN | apply Kd.R_drew)); exact Kd.R_mono (Kd.R_far (p := ⟨gb144, 2, none⟩) (Kd.R_far (p := ⟨gb144, 1, none⟩) (Kd.R_far (p := ⟨gb144, 0, none⟩) (Kd.R_types HO_149001.out BK144.out (by decide)) (fun _ hk => hk.2) (.int .i64 (wrap64 (1 + t145)))) (fun _ hk => hk.2) (.slice Ao90 x149001_1.length co90)) (fun _ hk => hk.2) (.slice Ao91 x149002_1.length co91)) (fun _ hk => trivial), by (with_reducible repeat (first | apply Kd.R_alloc | apply Kd.R_drewN | apply Kd.R_drew)); exact Kd.R_mono (Kd.R_far (p := ⟨gb144, 2, none⟩) (Kd.R_far (p := ⟨gb144, 1, none⟩) (Kd.R_far (p := ⟨gb144, 0, none⟩) (Kd.R_types HO_149002.out BK144.out (by decide)) (fun _ hk => hk.2) (.int .i64 (wrap64 (1 + t145)))) (fun _ hk => hk.2) (.slice Ao90 x149001_1.length co90)) (fun _ hk => hk.2) (.slice Ao91 x149002_1.length co91)) (fun _ hk => trivial), by repeat (first | (with_reducible first | exact HI0.out | apply IsS77.alloc | apply IsS77.drewN | apply IsS77.drew | apply IsS77.set_1 | apply IsS77.set_2 | refine IsS77.far ?_ NB0_144.out _ | refine IsS77.far ?_ NB0_148.out _) | exact HI0.out), by repeat (first | (with_reducible first | exact HB.out | apply below_alloc | apply pw_below_drewN | apply below_drew1 | refine below_set ?_ (IsS77.ge HI0.out) | refine below_set ?_ GE144.out | refine below_set ?_ GE148.out) | exact HB.out), by repeat (first | (with_reducible first | exact HK.out | apply KeepBut.set_ | apply keep_drewN | apply keep_drew | apply keep_alloc | refine keep_far ?_ GW144.out _ | refine keep_far ?_ GW148.out _) | exact HK.out)⟩

end Go.Proofs.Ytjlaogjikkckkaa.PFnMachines
