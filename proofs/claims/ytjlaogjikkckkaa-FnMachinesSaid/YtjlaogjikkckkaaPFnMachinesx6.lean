-- WRITTEN by pp.py, this session's own wrapper around the print; not trusted: Lean checks it
import Derived.Test.YtjlaogjikkckkaaPFnMachinesx0
import Derived.Test.YtjlaogjikkckkaaPFnMachinesx1
import Derived.Test.YtjlaogjikkckkaaPFnMachinesx3
import Derived.Test.YtjlaogjikkckkaaPFnMachinesx5
namespace Go.Proofs.Ytjlaogjikkckkaa.PFnMachines
open Go.RowKit Go.Proofs.Ytjlaogjikkckkaa.Hw Go.Proofs.YtjlaogjikkckkaaW.PrintWords Go.Proofs.YtjlaogjikkckkaaW.PrintLast Go.Proofs.YtjlaogjikkckkaaW.PrintMore
attribute [local go_sem] max2_int min2_int max_two min_two max_three min_three max_four min_four   -- for this text's walks alone
set_option linter.unusedVariables false
set_option linter.unusedSimpArgs false
set_option linter.unusedSectionVars false

attribute [local go_sem high] eqA54
/-! ### spec_DrawRunMachine: function 14 -/
mutual
def spec_DrawRunMachine.l0 : Nat → List Int → Int → Int → List Int → Int → Int → Int → List Bool → List (S54) → Option (Int × List Bool × (List (S54)) × List Int)
 | 0, _, _, _, _, _, _, _, _, _ => none
 | k + 1, x6, x7, x8, x232000, x232001, x232002, x242000, x242001, x242002 => if x8 > 0 then ((spec_l1Below.f x232000 x232001 x232002 7).bind fun bt248 => (spec_DrawRunMachine.l1 k x6 x7 x8 (wrap64 (bt248.1 - 3)) 0 x232000 bt248.2.1 bt248.2.2 x242000 x242001 x242002)) else ((spec_l1Once.f x232000 x232001 x232002 12).bind fun bt269 => (if bt269.1 = true then ((spec_l1Int.f x232000 bt269.2.1 bt269.2.2 (([9223372036854775807, (-9223372036854775808)] : List Int))).bind fun bt275 => (if x6.length < 17592186044416 then (some (x242000, x242001, x242002, (x6 ++ [bt275.1]))) else (none))) else (some (x242000, x242001, x242002, x6))))
def spec_DrawRunMachine.l1 : Nat → List Int → Int → Int → Int → Int → List Int → Int → Int → Int → List Bool → List (S54) → Option (Int × List Bool × (List (S54)) × List Int)
 | 0, _, _, _, _, _, _, _, _, _, _, _ => none
 | k + 1, x6, x7, x8, x9, x10, x232000, x232001, x232002, x242000, x242001, x242002 => if x10 < (x242002.length : Int) then ((spec_l1Once.f x232000 x232001 x232002 2).bind fun bt251 => (spec_DrawRunMachine.j2 k x6 x7 x8 x9 x10 bt251.1 x232000 bt251.2.1 bt251.2.2 x242000 x242001 x242002)) else (spec_DrawRunMachine.j2 k x6 x7 x8 x9 x10 false x232000 x232001 x232002 x242000 x242001 x242002)
def spec_DrawRunMachine.j2 : Nat → List Int → Int → Int → Int → Int → Bool → List Int → Int → Int → Int → List Bool → List (S54) → Option (Int × List Bool × (List (S54)) × List Int)
 | 0, _, _, _, _, _, _, _, _, _, _, _, _ => none
 | k + 1, x6, x7, x8, x9, x10, x33, x232000, x232001, x232002, x242000, x242001, x242002 => if x33 = true then (if 0 ≤ x10 then (if x10 < (x242002.length : Int) then (if ((rd_T54 x242002 x10).f0) = x7 then (if ((rd_T54 x242002 x10).f1 = true) then (if x6.length < 17592186044416 then (spec_DrawRunMachine.l0 k (x6 ++ [(rd_T54 x242002 x10).f2]) ((rd_T54 x242002 x10).f3) (wrap64 (x8 - 1)) x232000 x232001 x232002 x242000 x242001 x242002) else (none)) else (if x6.length < 17592186044416 then (spec_DrawRunMachine.l0 k (x6 ++ [wrap64 ((wrap64 (-((rd_T54 x242002 x10).f2))) - 1)]) ((rd_T54 x242002 x10).f3) (wrap64 (x8 - 1)) x232000 x232001 x232002 x242000 x242001 x242002) else (none))) else (spec_DrawRunMachine.l1 k x6 x7 x8 x9 (wrap64 (x10 + 1)) x232000 x232001 x232002 x242000 x242001 x242002)) else (none)) else (none)) else (if x6.length < 17592186044416 then (spec_DrawRunMachine.l0 k (x6 ++ [x9]) x7 (wrap64 (x8 - 1)) x232000 x232001 x232002 x242000 x242001 x242002) else (none))
end
def spec_DrawRunMachine.f (k : Nat) (l0 : List Int) : Option (Int × List Bool × (List (S54)) × List Int) := (spec_l1New.f k l0).bind fun bt228 => ((spec_l13Any.f k bt228.1 bt228.2.1 bt228.2.2).bind fun bt232 => ((spec_l1Below.f bt228.1 bt232.2.2.2.1 bt232.2.2.2.2 6).bind fun bt245 => (spec_DrawRunMachine.l0 k (([] : List Int)) 0 bt245.1 bt228.1 bt245.2.1 bt245.2.2 bt232.1 bt232.2.1 bt232.2.2.1)))
theorem spec_DrawRunMachine.mono_l : ∀ k, (∀ y0 y1 y2 y3 y4 y5 y6 y7 y8, LeO (spec_DrawRunMachine.l0 k y0 y1 y2 y3 y4 y5 y6 y7 y8) (spec_DrawRunMachine.l0 (k + 1) y0 y1 y2 y3 y4 y5 y6 y7 y8)) ∧ (∀ y0 y1 y2 y3 y4 y5 y6 y7 y8 y9 y10, LeO (spec_DrawRunMachine.l1 k y0 y1 y2 y3 y4 y5 y6 y7 y8 y9 y10) (spec_DrawRunMachine.l1 (k + 1) y0 y1 y2 y3 y4 y5 y6 y7 y8 y9 y10)) ∧ (∀ y0 y1 y2 y3 y4 y5 y6 y7 y8 y9 y10 y11, LeO (spec_DrawRunMachine.j2 k y0 y1 y2 y3 y4 y5 y6 y7 y8 y9 y10 y11) (spec_DrawRunMachine.j2 (k + 1) y0 y1 y2 y3 y4 y5 y6 y7 y8 y9 y10 y11))
 | 0 => ⟨fun _ _ _ _ _ _ _ _ _ r h => by simp [spec_DrawRunMachine.l0] at h, fun _ _ _ _ _ _ _ _ _ _ _ r h => by simp [spec_DrawRunMachine.l1] at h, fun _ _ _ _ _ _ _ _ _ _ _ _ r h => by simp [spec_DrawRunMachine.j2] at h⟩
 | k + 1 => by
  obtain ⟨ih0, ih1, ih2⟩ := spec_DrawRunMachine.mono_l k
  refine ⟨?_, ?_, ?_⟩
  ·intro y0 y1 y2 y3 y4 y5 y6 y7 y8
   unfold spec_DrawRunMachine.l0
   repeat' first
   | (with_reducible exact ih0 _ _ _ _ _ _ _ _ _)
   | (with_reducible exact ih1 _ _ _ _ _ _ _ _ _ _ _)
   | (with_reducible exact ih2 _ _ _ _ _ _ _ _ _ _ _ _)
   | (with_reducible exact spec_l13Any.mono _ _ _ _)
   | (with_reducible exact spec_l1New.mono _ _)
   | (with_reducible exact LeO.refl _)
   | (with_reducible exact LeO.none _)
   | (with_reducible refine LeO.ite ?_ ?_)
   | (with_reducible refine LeO.bind ?_ (fun _ => ?_))
   | exact ih0 _ _ _ _ _ _ _ _ _
   | exact ih1 _ _ _ _ _ _ _ _ _ _ _
   | exact ih2 _ _ _ _ _ _ _ _ _ _ _ _
   | exact spec_l13Any.mono _ _ _ _
   | exact spec_l1New.mono _ _
   | exact LeO.none _
   | refine LeO.ite ?_ ?_
   | refine LeO.bind ?_ (fun _ => ?_)
  ·intro y0 y1 y2 y3 y4 y5 y6 y7 y8 y9 y10
   unfold spec_DrawRunMachine.l1
   repeat' first
   | (with_reducible exact ih0 _ _ _ _ _ _ _ _ _)
   | (with_reducible exact ih1 _ _ _ _ _ _ _ _ _ _ _)
   | (with_reducible exact ih2 _ _ _ _ _ _ _ _ _ _ _ _)
   | (with_reducible exact spec_l13Any.mono _ _ _ _)
   | (with_reducible exact spec_l1New.mono _ _)
   | (with_reducible exact LeO.refl _)
   | (with_reducible exact LeO.none _)
   | (with_reducible refine LeO.ite ?_ ?_)
   | (with_reducible refine LeO.bind ?_ (fun _ => ?_))
   | exact ih0 _ _ _ _ _ _ _ _ _
   | exact ih1 _ _ _ _ _ _ _ _ _ _ _
   | exact ih2 _ _ _ _ _ _ _ _ _ _ _ _
   | exact spec_l13Any.mono _ _ _ _
   | exact spec_l1New.mono _ _
   | exact LeO.none _
   | refine LeO.ite ?_ ?_
   | refine LeO.bind ?_ (fun _ => ?_)
  ·intro y0 y1 y2 y3 y4 y5 y6 y7 y8 y9 y10 y11
   unfold spec_DrawRunMachine.j2
   repeat' first
   | (with_reducible exact ih0 _ _ _ _ _ _ _ _ _)
   | (with_reducible exact ih1 _ _ _ _ _ _ _ _ _ _ _)
   | (with_reducible exact ih2 _ _ _ _ _ _ _ _ _ _ _ _)
   | (with_reducible exact spec_l13Any.mono _ _ _ _)
   | (with_reducible exact spec_l1New.mono _ _)
   | (with_reducible exact LeO.refl _)
   | (with_reducible exact LeO.none _)
   | (with_reducible refine LeO.ite ?_ ?_)
   | (with_reducible refine LeO.bind ?_ (fun _ => ?_))
   | exact ih0 _ _ _ _ _ _ _ _ _
   | exact ih1 _ _ _ _ _ _ _ _ _ _ _
   | exact ih2 _ _ _ _ _ _ _ _ _ _ _ _
   | exact spec_l13Any.mono _ _ _ _
   | exact spec_l1New.mono _ _
   | exact LeO.none _
   | refine LeO.ite ?_ ?_
   | refine LeO.bind ?_ (fun _ => ?_)
theorem spec_DrawRunMachine.mono : ∀ a0 k, LeO (spec_DrawRunMachine.f k a0) (spec_DrawRunMachine.f (k + 1) a0) := by
 intro a0 k
 obtain ⟨ih0, ih1, ih2⟩ := spec_DrawRunMachine.mono_l k
 unfold spec_DrawRunMachine.f
 repeat' first
   | (with_reducible exact ih0 _ _ _ _ _ _ _ _ _)
   | (with_reducible exact ih1 _ _ _ _ _ _ _ _ _ _ _)
   | (with_reducible exact ih2 _ _ _ _ _ _ _ _ _ _ _ _)
   | (with_reducible exact spec_l13Any.mono _ _ _ _)
   | (with_reducible exact spec_l1New.mono _ _)
   | (with_reducible exact LeO.refl _)
   | (with_reducible exact LeO.none _)
   | (with_reducible refine LeO.ite ?_ ?_)
   | (with_reducible refine LeO.bind ?_ (fun _ => ?_))
   | exact ih0 _ _ _ _ _ _ _ _ _
   | exact ih1 _ _ _ _ _ _ _ _ _ _ _
   | exact ih2 _ _ _ _ _ _ _ _ _ _ _ _
   | exact spec_l13Any.mono _ _ _ _
   | exact spec_l1New.mono _ _
   | exact LeO.none _
   | refine LeO.ite ?_ ?_
   | refine LeO.bind ?_ (fun _ => ?_)
set_option maxHeartbeats 8000000 in
set_option maxRecDepth 100000 in
theorem spec_DrawRunMachine.calls (k : Nat) (A0 : Option Addr) (c0 : Nat) (l0 : List Int) (r1 : Int) (r2 : List Bool) (r3 : List (S54)) (r4 : List Int) (w : World) (hr0 : Kd.C (Kd.int .u8) w A0 l0.length l0) (hc0 : l0.length ≤ c0) (h : spec_DrawRunMachine.f k l0 = some (r1, r2, r3, r4)) :
  Calls Try.prog 14 #[.slice A0 l0.length c0] w fun e w' => ∃ v1_ v2_ v3_ : Value, e = .returned (.tuple #[.agg #[.int .i64 r1, v1_, v2_], v3_]) ∧ Kd.R Kd.bool 4 w' w.heap.size (fun _ => True) v1_ r2 ∧ Kd.R k54 54 w' w.heap.size (fun _ => True) v2_ r3 ∧ Kd.R (Kd.int .i64) 3 w' w.heap.size (fun _ => True) v3_ r4 ∧ Below w.heap.size w w' := by
 have hu29 := Try.underlying29
 have HR0 := Aside0.mk hr0
 have HC0 := Aside0.mk hc0
 clear hr0 hc0
 have HB := Aside0.mk (Below.refl w.heap.size w)
 have H : ((spec_l1New.f k l0).bind fun bt228 => ((spec_l13Any.f k bt228.1 bt228.2.1 bt228.2.2).bind fun bt232 => ((spec_l1Below.f bt228.1 bt232.2.2.2.1 bt232.2.2.2.2 6).bind fun bt245 => (spec_DrawRunMachine.l0 k (([] : List Int)) 0 bt245.1 bt228.1 bt245.2.1 bt245.2.2 bt232.1 bt232.2.1 bt232.2.2.1)))) = some (r1, r2, r3, r4) := h
 clear h
 replace H := Option.bind_eq_some_iff.mp H
 obtain ⟨⟨t228, t229, t230⟩, A20, H⟩ := H
 replace H : ((spec_l13Any.f k t228 t229 t230).bind fun bt232 => ((spec_l1Below.f t228 bt232.2.2.2.1 bt232.2.2.2.2 6).bind fun bt245 => (spec_DrawRunMachine.l0 k (([] : List Int)) 0 bt245.1 t228 bt245.2.1 bt245.2.2 bt232.1 bt232.2.1 bt232.2.2.1))) = some (r1, r2, r3, r4) := H
 have A2 := Aside0.mk A20
 clear A20
 replace H := Option.bind_eq_some_iff.mp H
 obtain ⟨⟨t232, t233, t236, t239, t240⟩, A30, H⟩ := H
 replace H : ((spec_l1Below.f t228 t239 t240 6).bind fun bt245 => (spec_DrawRunMachine.l0 k (([] : List Int)) 0 bt245.1 t228 bt245.2.1 bt245.2.2 t232 t233 t236)) = some (r1, r2, r3, r4) := H
 have A3 := Aside0.mk A30
 clear A30
 obtain ⟨y242, hy242⟩ : ∃ y_ : List Int, y_ = (([] : List Int)) := ⟨_, rfl⟩
 replace H : ((spec_l1Below.f t228 t239 t240 6).bind fun bt245 => (spec_DrawRunMachine.l0 k y242 0 bt245.1 t228 bt245.2.1 bt245.2.2 t232 t233 t236)) = some (r1, r2, r3, r4) := by first | (rw [hy242]; with_reducible exact H) | (have H2_ := (Option.bind_some _ _).symm.trans H; rw [hy242]; with_reducible exact H2_) | (have H2_ := (Option.bind_some _ _).symm.trans H; with_reducible exact H2_) | with_reducible exact H | (rw [hy242]; exact H) | exact H
 have Ny242 := Aside0.mk hy242
 clear hy242
 replace H := Option.bind_eq_some_iff.mp H
 obtain ⟨⟨t245, t246, t247⟩, A40, H⟩ := H
 replace H : (spec_DrawRunMachine.l0 k y242 0 t245 t228 t246 t247 t232 t233 t236) = some (r1, r2, r3, r4) := H
 have A4 := Aside0.mk A40
 clear A40
 have H' := Aside0.mk H
 clear H
 go_enter Try.func14, Try.ntmps14
 go_wp2_with (first | ((with_reducible refine gate_dst (N := 2) rfl ?_); refine box_event ?hg (N := 2) ?hd (cs := #[.int .i64 0, .slice none 0 0, .slice none 0 0]) (t := 29) ?hr ?_; (case hd => rfl); (case hg => rfl); (case hr => first | (go_simp; done) | (go_simp; rfl)); intro gb227 hg w5 hbox hb; have n0_ := bS HB hb; have n1_ := Aside0.mk (hbox); have n2_ := gS HB hg; have n3_ := gS HB hg; clear HB; have HB := n0_; have BK227 := n1_; have GW227 := n2_; have GE227 := n3_; clear n0_ n1_ n2_ n3_; clear hb hbox hg) | ((with_reducible refine gate_callee (f := 36) rfl ?_); refine goesL_ (some 12) rfl rfl Try.func36 (by kernel_rfl) rfl #[.slice A0 l0.length c0] rfl zG ?_; (with_reducible refine (spec_l1New.calls k _ _ l0 t228 t229 t230 w _ ?side1 ?side2 ?side3 A2.out).mono ?_); (case side1 => repeat (first | (with_reducible first | exact HB.out | apply below_alloc | apply pw_below_drewN | apply below_drew1 | refine below_set ?_ GE227.out) | exact HB.out)); (case side2 => exact HR0.out); (case side3 => exact HC0.out); rintro e w6 ⟨g231, rfl, hi, hb, hb2⟩; refine ⟨_, rfl, ?_⟩; have n0_ := Aside0.mk (blk_below (g := gb227) (o := .cells #[.int .i64 0, .slice none 0 0, .slice none 0 0] 29 (0, 0)) (zK BK227) hb2); have n1_ := Aside0.mk (hb); have n2_ := Aside0.mk (hi); have n3_ := Aside0.mk (IsS77.ne_blk hi (blk_below (g := gb227) (o := .cells #[.int .i64 0, .slice none 0 0, .slice none 0 0] 29 (0, 0)) (zK BK227) hb2) (by decide)); have n4_ := Aside0.mk (Ne.symm (IsS77.ne_blk hi (blk_below (g := gb227) (o := .cells #[.int .i64 0, .slice none 0 0, .slice none 0 0] 29 (0, 0)) (zK BK227) hb2) (by decide))); clear BK227; clear HB; have BK227 := n0_; have HB := n1_; have HI231 := n2_; have NB231_227 := n3_; have NB227_231 := n4_; clear n0_ n1_ n2_ n3_ n4_; (try clear hb)) | ((with_reducible refine gate_callee (f := 37) rfl ?_); refine goesL_ (some 14) rfl rfl Try.func37 (by kernel_rfl) rfl #[.pointer (some ⟨g231, 0, none⟩)] rfl zG ?_; (with_reducible refine (spec_l13Any.calls k g231 t228 t229 t230 t232 t233 t236 t239 t240 w _ ?side1 ?side2 A3.out).mono ?_); (case side1 => repeat (first | (with_reducible first | exact HI231.out | apply IsS77.alloc | apply IsS77.drewN | apply IsS77.drew | apply IsS77.set_1 | apply IsS77.set_2 | refine IsS77.far ?_ NB231_227.out _) | exact HI231.out)); (case side2 => repeat (first | (with_reducible first | exact HB.out | apply below_alloc | apply pw_below_drewN | apply below_drew1 | refine below_set ?_ (IsS77.ge HI231.out) | refine below_set ?_ GE227.out) | exact HB.out)); rintro e w7 ⟨v234, v237, rfl, ho0, ho1, hi, hb, hk⟩; refine ⟨_, rfl, ?_⟩; have n0_ := Aside0.mk (KeepBut.blk hk (g' := gb227) (o := .cells #[.int .i64 0, .slice none 0 0, .slice none 0 0] 29 (0, 0)) (zK BK227) NB227_231.out (by simp)); have n1_ := Aside0.mk (Kd.R_lower ho0 (below_size (by repeat (first | (with_reducible first | exact HB.out | apply below_alloc | apply pw_below_drewN | apply below_drew1 | refine below_set ?_ (IsS77.ge HI231.out) | refine below_set ?_ GE227.out) | exact HB.out)))); have n2_ := Aside0.mk (Kd.R_lower ho1 (below_size (by repeat (first | (with_reducible first | exact HB.out | apply below_alloc | apply pw_below_drewN | apply below_drew1 | refine below_set ?_ (IsS77.ge HI231.out) | refine below_set ?_ GE227.out) | exact HB.out)))); have n3_ := Aside0.mk (hb); have n4_ := Aside0.mk (hi); clear BK227; clear HB; clear HI231; have BK227 := n0_; have HO235 := n1_; have HO238 := n2_; have HB := n3_; have HI231 := n4_; clear n0_ n1_ n2_ n3_ n4_; (try clear hb); (try clear ho0); (try clear ho1)) | ((with_reducible refine gate_dst (N := 5) rfl ?_); refine box_event ?hg (N := 5) ?hd (cs := #[.int .i64 0, .slice none 0 0, .slice none 0 0]) (t := 29) ?hr ?_; (case hd => rfl); (case hg => rfl); (case hr => first | (go_simp; done) | (go_simp; rfl)); intro gb241 hg w8 hbox hb; have n0_ := Aside0.mk (Kd.R_below (zR HO235) hb); have n1_ := Aside0.mk (Kd.R_below (zR HO238) hb); have n2_ := kB BK227 hb; have n3_ := Aside0.mk (IsS77.below (by repeat (first | (with_reducible first | exact HI231.out | apply IsS77.alloc | apply IsS77.drewN | apply IsS77.drew | apply IsS77.set_1 | apply IsS77.set_2 | refine IsS77.far ?_ NB231_227.out _) | exact HI231.out)) hb); have n4_ := Aside0.mk (below_step (by repeat (first | (with_reducible first | exact HB.out | apply below_alloc | apply pw_below_drewN | apply below_drew1 | refine below_set ?_ (IsS77.ge HI231.out) | refine below_set ?_ GE227.out) | exact HB.out)) hb); have n5_ := Aside0.mk (hbox); have n6_ := Aside0.mk ((by rw [hg]; exact (below_size (by repeat (first | (with_reducible first | exact HB.out | apply below_alloc | apply pw_below_drewN | apply below_drew1 | refine below_set ?_ (IsS77.ge HI231.out) | refine below_set ?_ GE227.out) | exact HB.out))) : w.heap.size ≤ gb241)); have n7_ := Aside0.mk ((by rw [hg]; exact (below_size (by repeat (first | (with_reducible first | exact HB.out | apply below_alloc | apply pw_below_drewN | apply below_drew1 | refine below_set ?_ (IsS77.ge HI231.out) | refine below_set ?_ GE227.out) | exact HB.out))) : w.heap.size ≤ gb241)); have n8_ := Aside0.mk ((by rw [hg]; exact Nat.ne_of_lt (blk_lt (g := gb227) (o := .cells #[.int .i64 0, .slice none 0 0, .slice none 0 0] 29 (0, 0)) (zK BK227)) : gb227 ≠ gb241)); have n9_ := Aside0.mk ((by rw [hg]; exact Nat.ne_of_gt (blk_lt (g := gb227) (o := .cells #[.int .i64 0, .slice none 0 0, .slice none 0 0] 29 (0, 0)) (zK BK227)) : gb241 ≠ gb227)); have n10_ := Aside0.mk ((by rw [hg]; exact Nat.ne_of_lt (IsS77.lt (show IsS77 w _ g231 t228 t239 t240 from by repeat (first | (with_reducible first | exact HI231.out | apply IsS77.alloc | apply IsS77.drewN | apply IsS77.drew | apply IsS77.set_1 | apply IsS77.set_2 | refine IsS77.far ?_ NB231_227.out _) | exact HI231.out))) : g231 ≠ gb241)); have n11_ := Aside0.mk ((by rw [hg]; exact Nat.ne_of_gt (IsS77.lt (show IsS77 w _ g231 t228 t239 t240 from by repeat (first | (with_reducible first | exact HI231.out | apply IsS77.alloc | apply IsS77.drewN | apply IsS77.drew | apply IsS77.set_1 | apply IsS77.set_2 | refine IsS77.far ?_ NB231_227.out _) | exact HI231.out))) : gb241 ≠ g231)); clear HO235; clear HO238; clear BK227; clear HI231; clear HB; have HO235 := n0_; have HO238 := n1_; have BK227 := n2_; have HI231 := n3_; have HB := n4_; have BK241 := n5_; have GW241 := n6_; have GE241 := n7_; have NB227_241 := n8_; have NB241_227 := n9_; have NB231_241 := n10_; have NB241_231 := n11_; clear n0_ n1_ n2_ n3_ n4_ n5_ n6_ n7_ n8_ n9_ n10_ n11_; clear hb hbox hg; have hnb9 := NB241_227.out; have hnc9 := NB227_241.out; have hnb10 := NB241_231.out; have hnc10 := NB231_241.out; have hcz11_0 := bc0 BK241; have hcz11_1 := bc1 BK241; have hcz11_2 := bc2 BK241; have hfz11_0 := bf BK241 0; have hfz11_1 := bf BK241 1; have hfz11_2 := bf BK241 2; obtain ⟨Ao12, co12, eo12⟩ := Kd.R_slice HO235.out; subst eo12; obtain ⟨Ao13, co13, eo13⟩ := Kd.R_slice HO238.out; subst eo13) | ((with_reducible refine gate_dst (N := 15) rfl ?_); refine Kd.R_lit (Kd.int .i64) _ 3 ?hg (N := 15) ?hd (xs := ([] : List Int)) (inner := []) (ok := fun _ => True) (okp := fun _ => True) ?hr ?hp (fun _ hk => hk) trivial (Below.refl _ _) (Nat.le_refl _) (by simp) ?_; (case hd => rfl); (case hg => rfl); (case hr => first | (go_simp; done) | (go_simp; rfl)); (case hp => exact (Reps.none _ _)); intro v243 w14 ho15 hb hg_ hnew_; clear hg_ hnew_; (first | rw [← Ny242.out] at ho15 | (simp only [Int.reduceToNat] at ho15; rw [← Ny242.out] at ho15)); have n0_ := Aside0.mk (Kd.R_below (by (with_reducible repeat (first | apply Kd.R_alloc | apply Kd.R_drewN | apply Kd.R_drew)); exact (Kd.R_mono (Kd.R_far (p := ⟨gb241, 2, none⟩) (Kd.R_far (p := ⟨gb241, 1, none⟩) (Kd.R_far (p := ⟨gb241, 0, none⟩) (Kd.R_types HO235.out BK241.out (by decide)) (fun _ hk => hk.2) (.int .i64 t232)) (fun _ hk => hk.2) (.slice Ao12 t233.length co12)) (fun _ hk => hk.2) (.slice Ao13 t236.length co13)) (fun _ h_ => h_.1))) hb); have n1_ := Aside0.mk (Kd.R_below (by (with_reducible repeat (first | apply Kd.R_alloc | apply Kd.R_drewN | apply Kd.R_drew)); exact (Kd.R_mono (Kd.R_far (p := ⟨gb241, 2, none⟩) (Kd.R_far (p := ⟨gb241, 1, none⟩) (Kd.R_far (p := ⟨gb241, 0, none⟩) (Kd.R_types HO238.out BK241.out (by decide)) (fun _ hk => hk.2) (.int .i64 t232)) (fun _ hk => hk.2) (.slice Ao12 t233.length co12)) (fun _ hk => hk.2) (.slice Ao13 t236.length co13)) (fun _ h_ => h_.1))) hb); have n2_ := Aside0.mk (Kd.R_lower ho15 (below_size (by repeat (first | (with_reducible first | exact HB.out | apply below_alloc | apply pw_below_drewN | apply below_drew1 | refine below_set ?_ (IsS77.ge HI231.out) | refine below_set ?_ GE227.out | refine below_set ?_ GE241.out) | exact HB.out)))); have n3_ := Aside0.mk (blk_below (g := gb227) (o := .cells #[.int .i64 0, .slice none 0 0, .slice none 0 0] 29 (0, 0)) (by (with_reducible repeat (first | refine blk_drewN ?_ _ | refine blk_drew ?_ | refine blk_alloc ?_ _)); refine blk_far ?_ NB227_241.out _; (with_reducible repeat (first | refine blk_drewN ?_ _ | refine blk_drew ?_ | refine blk_alloc ?_ _)); refine blk_far ?_ NB227_241.out _; (with_reducible repeat (first | refine blk_drewN ?_ _ | refine blk_drew ?_ | refine blk_alloc ?_ _)); refine blk_far ?_ NB227_241.out _; (with_reducible repeat (first | refine blk_drewN ?_ _ | refine blk_drew ?_ | refine blk_alloc ?_ _)); exact BK227.out) hb); have n4_ := Aside0.mk (IsS77.below (show IsS77 w (((w8.setCell ⟨gb241, 0, none⟩ (.int .i64 t232)).setCell ⟨gb241, 1, none⟩ (.slice Ao12 t233.length co12)).setCell ⟨gb241, 2, none⟩ (.slice Ao13 t236.length co13)) g231 t228 t239 t240 from by repeat (first | (with_reducible first | exact HI231.out | apply IsS77.alloc | apply IsS77.drewN | apply IsS77.drew | apply IsS77.set_1 | apply IsS77.set_2 | refine IsS77.far ?_ NB231_227.out _ | refine IsS77.far ?_ NB231_241.out _) | exact HI231.out)) hb); have n5_ := Aside0.mk (blk_below (g := gb241) (o := .cells #[.int .i64 t232, .slice Ao12 t233.length co12, .slice Ao13 t236.length co13] 29 (0, 0)) (by (with_reducible repeat (first | refine blk_drewN ?_ _ | refine blk_drew ?_ | refine blk_alloc ?_ _)); refine blk_put (cs := #[.int .i64 t232, .slice Ao12 t233.length co12, .slice none 0 0]) ?_ 2 _ rfl; (with_reducible repeat (first | refine blk_drewN ?_ _ | refine blk_drew ?_ | refine blk_alloc ?_ _)); refine blk_put (cs := #[.int .i64 t232, .slice none 0 0, .slice none 0 0]) ?_ 1 _ rfl; (with_reducible repeat (first | refine blk_drewN ?_ _ | refine blk_drew ?_ | refine blk_alloc ?_ _)); refine blk_put (cs := #[.int .i64 0, .slice none 0 0, .slice none 0 0]) ?_ 0 _ rfl; (with_reducible repeat (first | refine blk_drewN ?_ _ | refine blk_drew ?_ | refine blk_alloc ?_ _)); exact BK241.out) hb); have n6_ := Aside0.mk (below_step (by repeat (first | (with_reducible first | exact HB.out | apply below_alloc | apply pw_below_drewN | apply below_drew1 | refine below_set ?_ (IsS77.ge HI231.out) | refine below_set ?_ GE227.out | refine below_set ?_ GE241.out) | exact HB.out)) hb); clear HO235; clear HO238; clear BK227; clear HI231; clear BK241; clear HB; have HO235 := n0_; have HO238 := n1_; have HO244 := n2_; have BK227 := n3_; have HI231 := n4_; have BK241 := n5_; have HB := n6_; clear n0_ n1_ n2_ n3_ n4_ n5_ n6_; clear hb ho15) | ((with_reducible refine gate_callee (f := 38) rfl ?_); refine goesL_ (some 17) rfl rfl Try.func38 (by kernel_rfl) rfl #[.pointer (some ⟨g231, 0, none⟩), .int .i64 6] rfl zG ?_; (with_reducible refine (spec_l1Below.calls g231 t228 t239 t240 6 t245 t246 t247 w _ ?side1 ?side2 A4.out).mono ?_); (case side1 => repeat (first | (with_reducible first | exact HI231.out | apply IsS77.alloc | apply IsS77.drewN | apply IsS77.drew | apply IsS77.set_1 | apply IsS77.set_2 | refine IsS77.far ?_ NB231_227.out _ | refine IsS77.far ?_ NB231_241.out _) | exact HI231.out)); (case side2 => repeat (first | (with_reducible first | exact HB.out | apply below_alloc | apply pw_below_drewN | apply below_drew1 | refine below_set ?_ (IsS77.ge HI231.out) | refine below_set ?_ GE227.out | refine below_set ?_ GE241.out) | exact HB.out)); rintro e w16 ⟨rfl, hi, hb, hk⟩; refine ⟨_, rfl, ?_⟩; have n0_ := Aside0.mk (KeepBut.blk hk (g' := gb227) (o := .cells #[.int .i64 0, .slice none 0 0, .slice none 0 0] 29 (0, 0)) (zK BK227) NB227_231.out (by simp)); have n1_ := Aside0.mk (Kd.R_mono (Kd.R_keep (IsS77.apart (show IsS77 w _ g231 t228 t239 t240 from by repeat (first | (with_reducible first | exact HI231.out | apply IsS77.alloc | apply IsS77.drewN | apply IsS77.drew | apply IsS77.set_1 | apply IsS77.set_2 | refine IsS77.far ?_ NB231_227.out _ | refine IsS77.far ?_ NB231_241.out _) | exact HI231.out)) (zR HO235) (by decide)) hk (fun _ h => h.2)) (fun _ h => h.1)); have n2_ := Aside0.mk (Kd.R_mono (Kd.R_keep (IsS77.apart (show IsS77 w _ g231 t228 t239 t240 from by repeat (first | (with_reducible first | exact HI231.out | apply IsS77.alloc | apply IsS77.drewN | apply IsS77.drew | apply IsS77.set_1 | apply IsS77.set_2 | refine IsS77.far ?_ NB231_227.out _ | refine IsS77.far ?_ NB231_241.out _) | exact HI231.out)) (zR HO238) (by decide)) hk (fun _ h => h.2)) (fun _ h => h.1)); have n3_ := Aside0.mk (KeepBut.blk hk (g' := gb241) (o := .cells #[.int .i64 t232, .slice Ao12 t233.length co12, .slice Ao13 t236.length co13] 29 (0, 0)) (zK BK241) NB241_231.out (by simp)); have n4_ := Aside0.mk (Kd.R_mono (Kd.R_keep (IsS77.apart (show IsS77 w _ g231 t228 t239 t240 from by repeat (first | (with_reducible first | exact HI231.out | apply IsS77.alloc | apply IsS77.drewN | apply IsS77.drew | apply IsS77.set_1 | apply IsS77.set_2 | refine IsS77.far ?_ NB231_227.out _ | refine IsS77.far ?_ NB231_241.out _) | exact HI231.out)) (zR HO244) (by decide)) hk (fun _ h => h.2)) (fun _ h => h.1)); have n5_ := Aside0.mk (hb); have n6_ := Aside0.mk (hi); clear BK227; clear HO235; clear HO238; clear BK241; clear HO244; clear HB; clear HI231; have BK227 := n0_; have HO235 := n1_; have HO238 := n2_; have BK241 := n3_; have HO244 := n4_; have HB := n5_; have HI231 := n6_; clear n0_ n1_ n2_ n3_ n4_ n5_ n6_; (try clear hb)))
 go_loopg [6, 7, 8] k (fun kq v6 v7 v8 w' => ∃ (x6_1 : List Int) (x7_1 : Int) (x8_1 : Int) (x232001_1 : Int) (x232002_1 : Int), v7 = .int .i64 x7_1 ∧ v8 = .int .i64 x8_1 ∧ Aside0 (spec_DrawRunMachine.l0 kq x6_1 x7_1 x8_1 t228 x232001_1 x232002_1 t232 t233 t236 = some (r1, r2, r3, r4)) ∧ Aside0 (kq ≤ k) ∧ Aside0 (Kd.R (Kd.int .i64) 3 w' w.heap.size (fun _ => True) v6 x6_1) ∧ Aside0 (Kd.R Kd.bool 4 w' w.heap.size (fun _ => True) (.slice Ao12 t233.length co12) t233) ∧ Aside0 (Kd.R k54 54 w' w.heap.size (fun _ => True) (.slice Ao13 t236.length co13) t236) ∧ Aside0 (w'.heap[gb227]? = some (.cells #[.int .i64 0, (.slice none 0 0), (.slice none 0 0)] 29 (0, 0))) ∧ Aside0 (w'.heap[gb241]? = some (.cells #[.int .i64 t232, (.slice Ao12 t233.length co12), (.slice Ao13 t236.length co13)] 29 (0, 0))) ∧ Aside0 (IsS77 w w' g231 t228 x232001_1 x232002_1) ∧ Aside0 (Below w.heap.size w w'))
 case atStart => exact ⟨(y242), (0), (t245), (t246), (t247), zF, zF, H', ⟨Nat.le_refl _⟩, ⟨zR HO244⟩, ⟨zR HO235⟩, ⟨zR HO238⟩, ⟨zK BK227⟩, ⟨zK BK241⟩, ⟨by repeat (first | (with_reducible first | exact HI231.out | apply IsS77.alloc | apply IsS77.drewN | apply IsS77.drew | apply IsS77.set_1 | apply IsS77.set_2 | refine IsS77.far ?_ NB231_227.out _ | refine IsS77.far ?_ NB231_241.out _) | exact HI231.out)⟩, ⟨by repeat (first | (with_reducible first | exact HB.out | apply below_alloc | apply pw_below_drewN | apply below_drew1 | refine below_set ?_ (IsS77.ge HI231.out) | refine below_set ?_ GE227.out | refine below_set ?_ GE241.out) | exact HB.out)⟩⟩
 case round =>
  clear H'
  try clear c1
  try clear p2
  try clear c3
  try clear c9
  try clear c10
  try clear c14
  try clear hcz11_0
  try clear hcz11_1
  try clear hcz11_2
  try clear hfz11_0
  try clear hfz11_1
  try clear hfz11_2
  obtain ⟨x6_1, x7_1, x8_1, x232001_1, x232002_1, rfl, rfl, HA, HK1, HO_6, HO_242001, HO_242002, BK227, BK241, HI231, HB⟩ := hrel
  cases gk with
  | zero => exact absurd HA.out (by simp [spec_DrawRunMachine.l0])
  | succ k1 =>
   have H := HA.out
   clear HA
   simp only [spec_DrawRunMachine.l0] at H
   by_cases c17 : x8_1 > 0
   ·rw [if_pos c17] at H
    have c17b0 : decide (0 < x8_1) = true := decide_eq_true c17
    clear c17
    replace H := Option.bind_eq_some_iff.mp H
    obtain ⟨⟨t248, t249, t250⟩, A180, H⟩ := H
    replace H : (spec_DrawRunMachine.l1 k1 x6_1 x7_1 x8_1 (wrap64 (t248 - 3)) 0 t228 t249 t250 t232 t233 t236) = some (r1, r2, r3, r4) := H
    have A18 := Aside0.mk A180
    clear A180
    have H' := Aside0.mk H
    clear H
    go_wp2_with (first | ((with_reducible refine gate_callee (f := 38) rfl ?_); refine goesL_ (some 23) rfl rfl Try.func38 (by kernel_rfl) rfl #[.pointer (some ⟨g231, 0, none⟩), .int .i64 7] rfl zG ?_; (with_reducible refine (spec_l1Below.calls g231 t228 x232001_1 x232002_1 7 t248 t249 t250 w _ ?side1 ?side2 A18.out).mono ?_); (case side1 => repeat (first | (with_reducible first | exact HI231.out | apply IsS77.alloc | apply IsS77.drewN | apply IsS77.drew | apply IsS77.set_1 | apply IsS77.set_2 | refine IsS77.far ?_ NB231_227.out _ | refine IsS77.far ?_ NB231_241.out _) | exact HI231.out)); (case side2 => repeat (first | (with_reducible first | exact HB.out | apply below_alloc | apply pw_below_drewN | apply below_drew1 | refine below_set ?_ (IsS77.ge HI231.out) | refine below_set ?_ GE227.out | refine below_set ?_ GE241.out) | exact HB.out)); rintro e w19 ⟨rfl, hi, hb, hk⟩; refine ⟨_, rfl, ?_⟩; have n0_ := Aside0.mk (Kd.R_mono (Kd.R_keep (IsS77.apart (show IsS77 w _ g231 t228 x232001_1 x232002_1 from by repeat (first | (with_reducible first | exact HI231.out | apply IsS77.alloc | apply IsS77.drewN | apply IsS77.drew | apply IsS77.set_1 | apply IsS77.set_2 | refine IsS77.far ?_ NB231_227.out _ | refine IsS77.far ?_ NB231_241.out _) | exact HI231.out)) (zR HO_6) (by decide)) hk (fun _ h => h.2)) (fun _ h => h.1)); have n1_ := Aside0.mk (Kd.R_mono (Kd.R_keep (IsS77.apart (show IsS77 w _ g231 t228 x232001_1 x232002_1 from by repeat (first | (with_reducible first | exact HI231.out | apply IsS77.alloc | apply IsS77.drewN | apply IsS77.drew | apply IsS77.set_1 | apply IsS77.set_2 | refine IsS77.far ?_ NB231_227.out _ | refine IsS77.far ?_ NB231_241.out _) | exact HI231.out)) (zR HO_242001) (by decide)) hk (fun _ h => h.2)) (fun _ h => h.1)); have n2_ := Aside0.mk (Kd.R_mono (Kd.R_keep (IsS77.apart (show IsS77 w _ g231 t228 x232001_1 x232002_1 from by repeat (first | (with_reducible first | exact HI231.out | apply IsS77.alloc | apply IsS77.drewN | apply IsS77.drew | apply IsS77.set_1 | apply IsS77.set_2 | refine IsS77.far ?_ NB231_227.out _ | refine IsS77.far ?_ NB231_241.out _) | exact HI231.out)) (zR HO_242002) (by decide)) hk (fun _ h => h.2)) (fun _ h => h.1)); have n3_ := Aside0.mk (KeepBut.blk hk (g' := gb227) (o := .cells #[.int .i64 0, .slice none 0 0, .slice none 0 0] 29 (0, 0)) (zK BK227) NB227_231.out (by simp)); have n4_ := Aside0.mk (KeepBut.blk hk (g' := gb241) (o := .cells #[.int .i64 t232, .slice Ao12 t233.length co12, .slice Ao13 t236.length co13] 29 (0, 0)) (zK BK241) NB241_231.out (by simp)); have n5_ := Aside0.mk (hb); have n6_ := Aside0.mk (hi); clear HO_6; clear HO_242001; clear HO_242002; clear BK227; clear BK241; clear HB; clear HI231; have HO_6 := n0_; have HO_242001 := n1_; have HO_242002 := n2_; have BK227 := n3_; have BK241 := n4_; have HB := n5_; have HI231 := n6_; clear n0_ n1_ n2_ n3_ n4_ n5_ n6_; (try clear hb)))
    go_loopg [7, 9, 10] k1 (fun kq v7 v9 v10 w' => ∃ (x7_2 : Int) (x9_2 : Int) (x10_2 : Int) (x232001_2 : Int) (x232002_2 : Int), v7 = .int .i64 x7_2 ∧ v9 = .int .i64 x9_2 ∧ v10 = .int .i64 x10_2 ∧ Aside0 (spec_DrawRunMachine.l1 kq x6_1 x7_2 x8_1 x9_2 x10_2 t228 x232001_2 x232002_2 t232 t233 t236 = some (r1, r2, r3, r4)) ∧ Aside0 (kq ≤ k1) ∧ Aside0 (Kd.R (Kd.int .i64) 3 w' w.heap.size (fun _ => True) u6 x6_1) ∧ Aside0 (Kd.R Kd.bool 4 w' w.heap.size (fun _ => True) (.slice Ao12 t233.length co12) t233) ∧ Aside0 (Kd.R k54 54 w' w.heap.size (fun _ => True) (.slice Ao13 t236.length co13) t236) ∧ Aside0 (w'.heap[gb227]? = some (.cells #[.int .i64 0, (.slice none 0 0), (.slice none 0 0)] 29 (0, 0))) ∧ Aside0 (w'.heap[gb241]? = some (.cells #[.int .i64 t232, (.slice Ao12 t233.length co12), (.slice Ao13 t236.length co13)] 29 (0, 0))) ∧ Aside0 (IsS77 w w' g231 t228 x232001_2 x232002_2) ∧ Aside0 (Below w.heap.size w w'))
    case atStart => exact ⟨(x7_1), (wrap64 (t248 - 3)), (0), (t249), (t250), zF, zF, zF, H', ⟨Nat.le_refl _⟩, ⟨zR HO_6⟩, ⟨zR HO_242001⟩, ⟨zR HO_242002⟩, ⟨zK BK227⟩, ⟨zK BK241⟩, ⟨by repeat (first | (with_reducible first | exact HI231.out | apply IsS77.alloc | apply IsS77.drewN | apply IsS77.drew | apply IsS77.set_1 | apply IsS77.set_2 | refine IsS77.far ?_ NB231_227.out _ | refine IsS77.far ?_ NB231_241.out _) | exact HI231.out)⟩, ⟨by repeat (first | (with_reducible first | exact HB.out | apply below_alloc | apply pw_below_drewN | apply below_drew1 | refine below_set ?_ (IsS77.ge HI231.out) | refine below_set ?_ GE227.out | refine below_set ?_ GE241.out) | exact HB.out)⟩⟩
    case round =>
     clear H'
     try clear c1
     try clear p2
     try clear c3
     try clear p6
     try clear c9
     try clear c10
     try clear c14
     try clear c17
     try clear c17b0
     try clear hcz11_0
     try clear hcz11_1
     try clear hcz11_2
     try clear hfz11_0
     try clear hfz11_1
     try clear hfz11_2
     try clear p2
     obtain ⟨x7_2, x9_2, x10_2, x232001_2, x232002_2, rfl, rfl, rfl, HA, HK2, HO_6, HO_242001, HO_242002, BK227, BK241, HI231, HB⟩ := hrel
     cases gk with
     | zero => exact absurd HA.out (by simp [spec_DrawRunMachine.l1])
     | succ k2 =>
      have H := HA.out
      clear HA
      simp only [spec_DrawRunMachine.l1] at H
      have HC20 := Aside0.mk H
      clear H
      go_upto_region 10 with (fail)
      go_cut [33] (fun v33 wc => ∃ (kq : Nat) (x33_19 : Bool) (x232001_19 : Int) (x232002_19 : Int), v33 = .bool x33_19 ∧ Aside0 (spec_DrawRunMachine.j2 kq x6_1 x7_2 x8_1 x9_2 x10_2 x33_19 t228 x232001_19 x232002_19 t232 t233 t236 = some (r1, r2, r3, r4)) ∧ Aside0 (kq ≤ k2) ∧ Aside0 (Kd.R (Kd.int .i64) 3 wc w.heap.size (fun _ => True) u6 x6_1) ∧ Aside0 (Kd.R Kd.bool 4 wc w.heap.size (fun _ => True) (.slice Ao12 t233.length co12) t233) ∧ Aside0 (Kd.R k54 54 wc w.heap.size (fun _ => True) (.slice Ao13 t236.length co13) t236) ∧ Aside0 (wc.heap[gb227]? = some (.cells #[.int .i64 0, (.slice none 0 0), (.slice none 0 0)] 29 (0, 0))) ∧ Aside0 (wc.heap[gb241]? = some (.cells #[.int .i64 t232, (.slice Ao12 t233.length co12), (.slice Ao13 t236.length co13)] 29 (0, 0))) ∧ Aside0 (IsS77 w wc g231 t228 x232001_19 x232002_19) ∧ Aside0 (Below w.heap.size w wc))
      case first =>
       have H := HC20.out
       clear HC20
       by_cases c21 : x10_2 < (t236.length : Int)
       ·rw [if_pos c21] at H
        have c21b0 : decide (x10_2 < (t236.length : Int)) = true := decide_eq_true c21
        clear c21
        (first | rw [c21b0] | (simp only [i64_w, i32_w]; rw [c21b0]) | skip)
        replace H := Option.bind_eq_some_iff.mp H
        obtain ⟨⟨t251, t252, t253⟩, A220, H⟩ := H
        replace H : (spec_DrawRunMachine.j2 k2 x6_1 x7_2 x8_1 x9_2 x10_2 t251 t228 t252 t253 t232 t233 t236) = some (r1, r2, r3, r4) := H
        have A22 := Aside0.mk A220
        clear A220
        have H' := Aside0.mk H
        clear H
        have hnb23 := NB241_227.out
        have hnc23 := NB227_241.out
        have hnb24 := NB241_231.out
        have hnc24 := NB231_241.out
        have hcz25_0 := bc0 BK241
        have hcz25_1 := bc1 BK241
        have hcz25_2 := bc2 BK241
        have hfz25_0 := bf BK241 0
        have hfz25_1 := bf BK241 1
        have hfz25_2 := bf BK241 2
        go_wp2_with (first | (go_at_call 39; (with_reducible refine (spec_l1Once.calls g231 t228 x232001_2 x232002_2 2 t251 t252 t253 w _ ?side1 ?side2 A22.out).mono ?_); (case side1 => repeat (first | (with_reducible first | exact HI231.out | apply IsS77.alloc | apply IsS77.drewN | apply IsS77.drew | apply IsS77.set_1 | apply IsS77.set_2 | refine IsS77.far ?_ NB231_227.out _ | refine IsS77.far ?_ NB231_241.out _) | exact HI231.out)); (case side2 => repeat (first | (with_reducible first | exact HB.out | apply below_alloc | apply pw_below_drewN | apply below_drew1 | refine below_set ?_ (IsS77.ge HI231.out) | refine below_set ?_ GE227.out | refine below_set ?_ GE241.out) | exact HB.out)); rintro e w26 ⟨rfl, hi, hb, hk⟩; have n0_ := Aside0.mk (Kd.R_mono (Kd.R_keep (IsS77.apart (show IsS77 w _ g231 t228 x232001_2 x232002_2 from by repeat (first | (with_reducible first | exact HI231.out | apply IsS77.alloc | apply IsS77.drewN | apply IsS77.drew | apply IsS77.set_1 | apply IsS77.set_2 | refine IsS77.far ?_ NB231_227.out _ | refine IsS77.far ?_ NB231_241.out _) | exact HI231.out)) (zR HO_6) (by decide)) hk (fun _ h => h.2)) (fun _ h => h.1)); have n1_ := Aside0.mk (Kd.R_mono (Kd.R_keep (IsS77.apart (show IsS77 w _ g231 t228 x232001_2 x232002_2 from by repeat (first | (with_reducible first | exact HI231.out | apply IsS77.alloc | apply IsS77.drewN | apply IsS77.drew | apply IsS77.set_1 | apply IsS77.set_2 | refine IsS77.far ?_ NB231_227.out _ | refine IsS77.far ?_ NB231_241.out _) | exact HI231.out)) (zR HO_242001) (by decide)) hk (fun _ h => h.2)) (fun _ h => h.1)); have n2_ := Aside0.mk (Kd.R_mono (Kd.R_keep (IsS77.apart (show IsS77 w _ g231 t228 x232001_2 x232002_2 from by repeat (first | (with_reducible first | exact HI231.out | apply IsS77.alloc | apply IsS77.drewN | apply IsS77.drew | apply IsS77.set_1 | apply IsS77.set_2 | refine IsS77.far ?_ NB231_227.out _ | refine IsS77.far ?_ NB231_241.out _) | exact HI231.out)) (zR HO_242002) (by decide)) hk (fun _ h => h.2)) (fun _ h => h.1)); have n3_ := Aside0.mk (KeepBut.blk hk (g' := gb227) (o := .cells #[.int .i64 0, .slice none 0 0, .slice none 0 0] 29 (0, 0)) (zK BK227) NB227_231.out (by simp)); have n4_ := Aside0.mk (KeepBut.blk hk (g' := gb241) (o := .cells #[.int .i64 t232, .slice Ao12 t233.length co12, .slice Ao13 t236.length co13] 29 (0, 0)) (zK BK241) NB241_231.out (by simp)); have n5_ := Aside0.mk (hb); have n6_ := Aside0.mk (hi); clear HO_6; clear HO_242001; clear HO_242002; clear BK227; clear BK241; clear HB; clear HI231; have HO_6 := n0_; have HO_242001 := n1_; have HO_242002 := n2_; have BK227 := n3_; have BK241 := n4_; have HB := n5_; have HI231 := n6_; clear n0_ n1_ n2_ n3_ n4_ n5_ n6_; (try clear hb)))
        go_meet
        case rel => exact ⟨_, (t251), (t252), (t253), zF, H', ⟨by have := HK1.out; have := HK2.out; first | omega | exact Nat.le_refl _⟩, ⟨zR HO_6⟩, ⟨zR HO_242001⟩, ⟨zR HO_242002⟩, ⟨zK BK227⟩, ⟨zK BK241⟩, ⟨by repeat (first | (with_reducible first | exact HI231.out | apply IsS77.alloc | apply IsS77.drewN | apply IsS77.drew | apply IsS77.set_1 | apply IsS77.set_2 | refine IsS77.far ?_ NB231_227.out _ | refine IsS77.far ?_ NB231_241.out _) | exact HI231.out)⟩, ⟨by repeat (first | (with_reducible first | exact HB.out | apply below_alloc | apply pw_below_drewN | apply below_drew1 | refine below_set ?_ (IsS77.ge HI231.out) | refine below_set ?_ GE227.out | refine below_set ?_ GE241.out) | exact HB.out)⟩⟩
       ·rw [if_neg c21] at H
        have c21b0 : decide (x10_2 < (t236.length : Int)) = false := decide_eq_false c21
        clear c21
        (first | rw [c21b0] | (simp only [i64_w, i32_w]; rw [c21b0]) | skip)
        have H' := Aside0.mk H
        clear H
        have hnb27 := NB241_227.out
        have hnc27 := NB227_241.out
        have hnb28 := NB241_231.out
        have hnc28 := NB231_241.out
        have hcz29_0 := bc0 BK241
        have hcz29_1 := bc1 BK241
        have hcz29_2 := bc2 BK241
        have hfz29_0 := bf BK241 0
        have hfz29_1 := bf BK241 1
        have hfz29_2 := bf BK241 2
        go_wp2
        go_meet
        case rel => exact ⟨_, (false), (x232001_2), (x232002_2), zF, H', ⟨by have := HK1.out; have := HK2.out; first | omega | exact Nat.le_refl _⟩, ⟨zR HO_6⟩, ⟨zR HO_242001⟩, ⟨zR HO_242002⟩, ⟨zK BK227⟩, ⟨zK BK241⟩, ⟨by repeat (first | (with_reducible first | exact HI231.out | apply IsS77.alloc | apply IsS77.drewN | apply IsS77.drew | apply IsS77.set_1 | apply IsS77.set_2 | refine IsS77.far ?_ NB231_227.out _ | refine IsS77.far ?_ NB231_241.out _) | exact HI231.out)⟩, ⟨by repeat (first | (with_reducible first | exact HB.out | apply below_alloc | apply pw_below_drewN | apply below_drew1 | refine below_set ?_ (IsS77.ge HI231.out) | refine below_set ?_ GE227.out | refine below_set ?_ GE241.out) | exact HB.out)⟩⟩
      case rest =>
       clear HC20
       try clear c1
       try clear c2
       try clear p2
       try clear c3
       try clear p6
       try clear c9
       try clear c10
       try clear c14
       try clear c17
       try clear c17b0
       try clear c21
       try clear c21b0
       try clear c23
       try clear c24
       try clear c27
       try clear c28
       try clear hcz11_0
       try clear hcz11_1
       try clear hcz11_2
       try clear hcz25_0
       try clear hcz25_1
       try clear hcz25_2
       try clear hcz29_0
       try clear hcz29_1
       try clear hcz29_2
       try clear hfz11_0
       try clear hfz11_1
       try clear hfz11_2
       try clear hfz25_0
       try clear hfz25_1
       try clear hfz25_2
       try clear hfz29_0
       try clear hfz29_1
       try clear hfz29_2
       try clear p2
       try clear p6
       obtain ⟨kq, x33_19, x232001_19, x232002_19, rfl, HA, HJ19, HO_6, HO_242001, HO_242002, BK227, BK241, HI231, HB⟩ := hcut
       cases kq with
       | zero => exact absurd HA.out (by simp [spec_DrawRunMachine.j2])
       | succ kj19 =>
        have H := HA.out
        clear HA
        simp only [spec_DrawRunMachine.j2] at H
        by_cases c30 : x33_19 = true
        ·subst c30
         have H1 : (if 0 ≤ x10_2 then (if x10_2 < (t236.length : Int) then (if ((rd_T54 t236 x10_2).f0) = x7_2 then (if ((rd_T54 t236 x10_2).f1 = true) then (if x6_1.length < 17592186044416 then (spec_DrawRunMachine.l0 kj19 (x6_1 ++ [(rd_T54 t236 x10_2).f2]) ((rd_T54 t236 x10_2).f3) (wrap64 (x8_1 - 1)) t228 x232001_19 x232002_19 t232 t233 t236) else (none)) else (if x6_1.length < 17592186044416 then (spec_DrawRunMachine.l0 kj19 (x6_1 ++ [wrap64 ((wrap64 (-((rd_T54 t236 x10_2).f2))) - 1)]) ((rd_T54 t236 x10_2).f3) (wrap64 (x8_1 - 1)) t228 x232001_19 x232002_19 t232 t233 t236) else (none))) else (spec_DrawRunMachine.l1 kj19 x6_1 x7_2 x8_1 x9_2 (wrap64 (x10_2 + 1)) t228 x232001_19 x232002_19 t232 t233 t236)) else (none)) else (none)) = some (r1, r2, r3, r4) := by rw [if_pos rfl] at H; exact H
         clear H
         have H := H1
         clear H1
         by_cases c31 : 0 ≤ x10_2
         ·rw [if_pos c31] at H
          have c31b0 : decide (0 ≤ x10_2) = true := decide_eq_true c31
          clear c31
          by_cases c32 : x10_2 < (t236.length : Int)
          ·rw [if_pos c32] at H
           have c32b0 : decide (x10_2 < (t236.length : Int)) = true := decide_eq_true c32
           clear c32
           by_cases c33 : ((rd_T54 t236 x10_2).f0) = x7_2
           ·rw [if_pos c33] at H
            have c33b0 : (((rd_T54 t236 x10_2).f0) == x7_2) = true := beq_iff_eq.mpr c33
            have c33b1 : (((rd_T54 t236 x10_2).f0) != x7_2) = false := bne_eq_false_iff_eq.mpr c33
            clear c33
            obtain ⟨bq34, hbq34⟩ : ∃ b_ : Bool, b_ = ((rd_T54 t236 x10_2).f1) := ⟨_, rfl⟩
            replace H : (if (bq34 = true) then (if x6_1.length < 17592186044416 then (spec_DrawRunMachine.l0 kj19 (x6_1 ++ [(rd_T54 t236 x10_2).f2]) ((rd_T54 t236 x10_2).f3) (wrap64 (x8_1 - 1)) t228 x232001_19 x232002_19 t232 t233 t236) else (none)) else (if x6_1.length < 17592186044416 then (spec_DrawRunMachine.l0 kj19 (x6_1 ++ [wrap64 ((wrap64 (-((rd_T54 t236 x10_2).f2))) - 1)]) ((rd_T54 t236 x10_2).f3) (wrap64 (x8_1 - 1)) t228 x232001_19 x232002_19 t232 t233 t236) else (none))) = some (r1, r2, r3, r4) := by rw [← hbq34] at H; exact H
            have Nbq34 := Aside0.mk hbq34
            clear hbq34
            by_cases c35 : (bq34 = true)
            ·subst c35
             have H1 : (if x6_1.length < 17592186044416 then (spec_DrawRunMachine.l0 kj19 (x6_1 ++ [(rd_T54 t236 x10_2).f2]) ((rd_T54 t236 x10_2).f3) (wrap64 (x8_1 - 1)) t228 x232001_19 x232002_19 t232 t233 t236) else (none)) = some (r1, r2, r3, r4) := by rw [if_pos rfl] at H; exact H
             clear H
             have H := H1
             clear H1
             by_cases c36 : x6_1.length < 17592186044416
             ·rw [if_pos c36] at H
              have LMc36 := Aside0.mk c36
              clear c36
              obtain ⟨y261, hy261⟩ : ∃ y_ : List Int, y_ = (x6_1 ++ [(rd_T54 t236 x10_2).f2]) := ⟨_, rfl⟩
              replace H : (spec_DrawRunMachine.l0 kj19 y261 ((rd_T54 t236 x10_2).f3) (wrap64 (x8_1 - 1)) t228 x232001_19 x232002_19 t232 t233 t236) = some (r1, r2, r3, r4) := by first | (rw [hy261]; with_reducible exact H) | (have H2_ := (Option.bind_some _ _).symm.trans H; rw [hy261]; with_reducible exact H2_) | (have H2_ := (Option.bind_some _ _).symm.trans H; with_reducible exact H2_) | with_reducible exact H | (rw [hy261]; exact H) | exact H
              have Ny261 := Aside0.mk hy261
              clear hy261
              have H' := Aside0.mk H
              clear H
              have hnb37 := NB241_227.out
              have hnc37 := NB227_241.out
              have hnb38 := NB241_231.out
              have hnc38 := NB231_241.out
              have hcz39_0 := bc0 BK241
              have hcz39_1 := bc1 BK241
              have hcz39_2 := bc2 BK241
              have hfz39_0 := bf BK241 0
              have hfz39_1 := bf BK241 1
              have hfz39_2 := bf BK241 2
              have p257 : 0 ≤ (x10_2 : Int) := of_decide_eq_true (by first | (with_reducible assumption) | assumption)
              have q257 : x10_2 < (t236.length : Int) := of_decide_eq_true (by first | (with_reducible assumption) | assumption)
              obtain ⟨ad257, e257, hx257_0, hx257_1, hx257_2, hx257_3⟩ := at_T54 (Kd.R_reads' HO_242002.out).2.2 x10_2 p257 q257
              (try rw [← Nbq34.out] at hx257_1)
              cases e257
              replace p257 := eq_true p257
              replace q257 := eq_true q257
              have p258 : 0 ≤ (x10_2 : Int) := of_decide_eq_true (by first | (with_reducible assumption) | assumption)
              have q258 : x10_2 < (t236.length : Int) := of_decide_eq_true (by first | (with_reducible assumption) | assumption)
              obtain ⟨ad258, e258, hx258_0, hx258_1, hx258_2, hx258_3⟩ := at_T54 (Kd.R_reads' HO_242002.out).2.2 x10_2 p258 q258
              (try rw [← Nbq34.out] at hx258_1)
              obtain rfl : ad257 = ad258 := (by injection e258)
              replace p258 := eq_true p258
              replace q258 := eq_true q258
              have p259 : 0 ≤ (x10_2 : Int) := of_decide_eq_true (by first | (with_reducible assumption) | assumption)
              have q259 : x10_2 < (t236.length : Int) := of_decide_eq_true (by first | (with_reducible assumption) | assumption)
              obtain ⟨ad259, e259, hx259_0, hx259_1, hx259_2, hx259_3⟩ := at_T54 (Kd.R_reads' HO_242002.out).2.2 x10_2 p259 q259
              (try rw [← Nbq34.out] at hx259_1)
              obtain rfl : ad257 = ad259 := (by injection e259)
              replace p259 := eq_true p259
              replace q259 := eq_true q259
              have p260 : 0 ≤ (x10_2 : Int) := of_decide_eq_true (by first | (with_reducible assumption) | assumption)
              have q260 : x10_2 < (t236.length : Int) := of_decide_eq_true (by first | (with_reducible assumption) | assumption)
              obtain ⟨ad260, e260, hx260_0, hx260_1, hx260_2, hx260_3⟩ := at_T54 (Kd.R_reads' HO_242002.out).2.2 x10_2 p260 q260
              (try rw [← Nbq34.out] at hx260_1)
              obtain rfl : ad257 = ad260 := (by injection e260)
              replace p260 := eq_true p260
              replace q260 := eq_true q260
              go_wp2_with (first | ((with_reducible refine gate_builtin (b := .append) (xs := #[.tmp 71, .tmp 73]) rfl ?_); at_builtin; refine Kd.R_append (Kd.int .i64) (w0 := w) w.heap.size rfl (.tmp 71) (.tmp 73) 37 3 (.int .i64 0) 8 rfl Try.underlying37 info3 rfl (by decide) (by omega) u6 x6_1 ((rd_T54 t236 x10_2).f2) [.int .i64 ((rd_T54 t236 x10_2).f2)] (fun _ => True) (fun _ => False) rfl rfl ?aP (fun _ hk => hk.elim) ?aF ?aO ?aB ?aS ?aL ?_; (case aP => exact rfl); (case aB => exact (by repeat (first | (with_reducible first | exact HB.out | apply below_alloc | apply pw_below_drewN | apply below_drew1 | refine below_set ?_ (IsS77.ge HI231.out) | refine below_set ?_ GE227.out | refine below_set ?_ GE241.out) | exact HB.out))); (case aF => exact (fun _ _ => trivial)); (case aO => exact (zR HO_6)); (case aS => exact (below_size (by repeat (first | (with_reducible first | exact HB.out | apply below_alloc | apply pw_below_drewN | apply below_drew1 | refine below_set ?_ (IsS77.ge HI231.out) | refine below_set ?_ GE227.out | refine below_set ?_ GE241.out) | exact HB.out)))); (case aL => have := LMc36.out; omega); intro v262 w40 ho hb hg hat; rw [← Ny261.out] at ho; have n0_ := Aside0.mk (Kd.R_over' (zR HO_242001) (Kd.R_typed (zR HO_6)) (by decide) hg); have n1_ := Aside0.mk (Kd.R_over' (zR HO_242002) (Kd.R_typed (zR HO_6)) (by decide) hg); have n2_ := Aside0.mk (blk_grown (g := gb227) (o := .cells #[.int .i64 0, .slice none 0 0, .slice none 0 0] 29 (0, 0)) (zK BK227) hg (Kd.R_ne HO_6.out BK227.out (by decide))); have n3_ := Aside0.mk (blk_grown (g := gb241) (o := .cells #[.int .i64 t232, .slice Ao12 t233.length co12, .slice (some ad257) t236.length co13] 29 (0, 0)) (zK BK241) hg (Kd.R_ne HO_6.out BK241.out (by decide))); have n4_ := Aside0.mk (IsS77.grown (by repeat (first | (with_reducible first | exact HI231.out | apply IsS77.alloc | apply IsS77.drewN | apply IsS77.drew | apply IsS77.set_1 | apply IsS77.set_2 | refine IsS77.far ?_ NB231_227.out _ | refine IsS77.far ?_ NB231_241.out _) | exact HI231.out)) hg (IsS77.own_ne HI231.out HO_6.out (by decide))); have n5_ := Aside0.mk (hb); have n6_ := Aside0.mk (ho); clear HO_242001; clear HO_242002; clear BK227; clear BK241; clear HI231; clear HB; clear HO_6; have HO_242001 := n0_; have HO_242002 := n1_; have BK227 := n2_; have BK241 := n3_; have HI231 := n4_; have HB := n5_; have HO263 := n6_; clear n0_ n1_ n2_ n3_ n4_ n5_ n6_; clear ho hb hg hat))
              go_roundg kj19
              case measure => have := HK1.out; have := HK2.out; have := HJ19.out; omega
              case rel => exact ⟨(y261), ((rd_T54 t236 x10_2).f3), (wrap64 (x8_1 - 1)), (x232001_19), (x232002_19), zF, zF, H', ⟨by have := HK1.out; have := HK2.out; have := HJ19.out; omega⟩, ⟨zR HO263⟩, ⟨zR HO_242001⟩, ⟨zR HO_242002⟩, ⟨zK BK227⟩, ⟨zK BK241⟩, ⟨by repeat (first | (with_reducible first | exact HI231.out | apply IsS77.alloc | apply IsS77.drewN | apply IsS77.drew | apply IsS77.set_1 | apply IsS77.set_2 | refine IsS77.far ?_ NB231_227.out _ | refine IsS77.far ?_ NB231_241.out _) | exact HI231.out)⟩, ⟨by repeat (first | (with_reducible first | exact HB.out | apply below_alloc | apply pw_below_drewN | apply below_drew1 | refine below_set ?_ (IsS77.ge HI231.out) | refine below_set ?_ GE227.out | refine below_set ?_ GE241.out) | exact HB.out)⟩⟩
             ·rw [if_neg c36] at H
              exact absurd H (by simp)
            ·replace c35 := Bool.eq_false_iff.mpr c35
             subst c35
             have H1 : (if x6_1.length < 17592186044416 then (spec_DrawRunMachine.l0 kj19 (x6_1 ++ [wrap64 ((wrap64 (-((rd_T54 t236 x10_2).f2))) - 1)]) ((rd_T54 t236 x10_2).f3) (wrap64 (x8_1 - 1)) t228 x232001_19 x232002_19 t232 t233 t236) else (none)) = some (r1, r2, r3, r4) := by rw [if_neg (show ¬ (false = true) by decide)] at H; exact H
             clear H
             have H := H1
             clear H1
             by_cases c41 : x6_1.length < 17592186044416
             ·rw [if_pos c41] at H
              have LMc41 := Aside0.mk c41
              clear c41
              obtain ⟨y266, hy266⟩ : ∃ y_ : List Int, y_ = (x6_1 ++ [wrap64 ((wrap64 (-((rd_T54 t236 x10_2).f2))) - 1)]) := ⟨_, rfl⟩
              replace H : (spec_DrawRunMachine.l0 kj19 y266 ((rd_T54 t236 x10_2).f3) (wrap64 (x8_1 - 1)) t228 x232001_19 x232002_19 t232 t233 t236) = some (r1, r2, r3, r4) := by first | (rw [hy266]; with_reducible exact H) | (have H2_ := (Option.bind_some _ _).symm.trans H; rw [hy266]; with_reducible exact H2_) | (have H2_ := (Option.bind_some _ _).symm.trans H; with_reducible exact H2_) | with_reducible exact H | (rw [hy266]; exact H) | exact H
              have Ny266 := Aside0.mk hy266
              clear hy266
              have H' := Aside0.mk H
              clear H
              have hnb42 := NB241_227.out
              have hnc42 := NB227_241.out
              have hnb43 := NB241_231.out
              have hnc43 := NB231_241.out
              have hcz44_0 := bc0 BK241
              have hcz44_1 := bc1 BK241
              have hcz44_2 := bc2 BK241
              have hfz44_0 := bf BK241 0
              have hfz44_1 := bf BK241 1
              have hfz44_2 := bf BK241 2
              have p257 : 0 ≤ (x10_2 : Int) := of_decide_eq_true (by first | (with_reducible assumption) | assumption)
              have q257 : x10_2 < (t236.length : Int) := of_decide_eq_true (by first | (with_reducible assumption) | assumption)
              obtain ⟨ad257, e257, hx257_0, hx257_1, hx257_2, hx257_3⟩ := at_T54 (Kd.R_reads' HO_242002.out).2.2 x10_2 p257 q257
              (try rw [← Nbq34.out] at hx257_1)
              cases e257
              replace p257 := eq_true p257
              replace q257 := eq_true q257
              have p258 : 0 ≤ (x10_2 : Int) := of_decide_eq_true (by first | (with_reducible assumption) | assumption)
              have q258 : x10_2 < (t236.length : Int) := of_decide_eq_true (by first | (with_reducible assumption) | assumption)
              obtain ⟨ad258, e258, hx258_0, hx258_1, hx258_2, hx258_3⟩ := at_T54 (Kd.R_reads' HO_242002.out).2.2 x10_2 p258 q258
              (try rw [← Nbq34.out] at hx258_1)
              obtain rfl : ad257 = ad258 := (by injection e258)
              replace p258 := eq_true p258
              replace q258 := eq_true q258
              have p259 : 0 ≤ (x10_2 : Int) := of_decide_eq_true (by first | (with_reducible assumption) | assumption)
              have q259 : x10_2 < (t236.length : Int) := of_decide_eq_true (by first | (with_reducible assumption) | assumption)
              obtain ⟨ad259, e259, hx259_0, hx259_1, hx259_2, hx259_3⟩ := at_T54 (Kd.R_reads' HO_242002.out).2.2 x10_2 p259 q259
              (try rw [← Nbq34.out] at hx259_1)
              obtain rfl : ad257 = ad259 := (by injection e259)
              replace p259 := eq_true p259
              replace q259 := eq_true q259
              have p264 : 0 ≤ (x10_2 : Int) := of_decide_eq_true (by first | (with_reducible assumption) | assumption)
              have q264 : x10_2 < (t236.length : Int) := of_decide_eq_true (by first | (with_reducible assumption) | assumption)
              obtain ⟨ad264, e264, hx264_0, hx264_1, hx264_2, hx264_3⟩ := at_T54 (Kd.R_reads' HO_242002.out).2.2 x10_2 p264 q264
              (try rw [← Nbq34.out] at hx264_1)
              obtain rfl : ad257 = ad264 := (by injection e264)
              replace p264 := eq_true p264
              replace q264 := eq_true q264
              have p265 : 0 ≤ (x10_2 : Int) := of_decide_eq_true (by first | (with_reducible assumption) | assumption)
              have q265 : x10_2 < (t236.length : Int) := of_decide_eq_true (by first | (with_reducible assumption) | assumption)
              obtain ⟨ad265, e265, hx265_0, hx265_1, hx265_2, hx265_3⟩ := at_T54 (Kd.R_reads' HO_242002.out).2.2 x10_2 p265 q265
              (try rw [← Nbq34.out] at hx265_1)
              obtain rfl : ad257 = ad265 := (by injection e265)
              replace p265 := eq_true p265
              replace q265 := eq_true q265
              go_wp2_with (first | ((with_reducible refine gate_builtin (b := .append) (xs := #[.tmp 71, .tmp 73]) rfl ?_); at_builtin; refine Kd.R_append (Kd.int .i64) (w0 := w) w.heap.size rfl (.tmp 71) (.tmp 73) 37 3 (.int .i64 0) 8 rfl Try.underlying37 info3 rfl (by decide) (by omega) u6 x6_1 (wrap64 ((wrap64 (-((rd_T54 t236 x10_2).f2))) - 1)) [.int .i64 (wrap64 ((wrap64 (-((rd_T54 t236 x10_2).f2))) - 1))] (fun _ => True) (fun _ => False) rfl rfl ?aP (fun _ hk => hk.elim) ?aF ?aO ?aB ?aS ?aL ?_; (case aP => exact rfl); (case aB => exact (by repeat (first | (with_reducible first | exact HB.out | apply below_alloc | apply pw_below_drewN | apply below_drew1 | refine below_set ?_ (IsS77.ge HI231.out) | refine below_set ?_ GE227.out | refine below_set ?_ GE241.out) | exact HB.out))); (case aF => exact (fun _ _ => trivial)); (case aO => exact (zR HO_6)); (case aS => exact (below_size (by repeat (first | (with_reducible first | exact HB.out | apply below_alloc | apply pw_below_drewN | apply below_drew1 | refine below_set ?_ (IsS77.ge HI231.out) | refine below_set ?_ GE227.out | refine below_set ?_ GE241.out) | exact HB.out)))); (case aL => have := LMc41.out; omega); intro v267 w45 ho hb hg hat; rw [← Ny266.out] at ho; have n0_ := Aside0.mk (Kd.R_over' (zR HO_242001) (Kd.R_typed (zR HO_6)) (by decide) hg); have n1_ := Aside0.mk (Kd.R_over' (zR HO_242002) (Kd.R_typed (zR HO_6)) (by decide) hg); have n2_ := Aside0.mk (blk_grown (g := gb227) (o := .cells #[.int .i64 0, .slice none 0 0, .slice none 0 0] 29 (0, 0)) (zK BK227) hg (Kd.R_ne HO_6.out BK227.out (by decide))); have n3_ := Aside0.mk (blk_grown (g := gb241) (o := .cells #[.int .i64 t232, .slice Ao12 t233.length co12, .slice (some ad257) t236.length co13] 29 (0, 0)) (zK BK241) hg (Kd.R_ne HO_6.out BK241.out (by decide))); have n4_ := Aside0.mk (IsS77.grown (by repeat (first | (with_reducible first | exact HI231.out | apply IsS77.alloc | apply IsS77.drewN | apply IsS77.drew | apply IsS77.set_1 | apply IsS77.set_2 | refine IsS77.far ?_ NB231_227.out _ | refine IsS77.far ?_ NB231_241.out _) | exact HI231.out)) hg (IsS77.own_ne HI231.out HO_6.out (by decide))); have n5_ := Aside0.mk (hb); have n6_ := Aside0.mk (ho); clear HO_242001; clear HO_242002; clear BK227; clear BK241; clear HI231; clear HB; clear HO_6; have HO_242001 := n0_; have HO_242002 := n1_; have BK227 := n2_; have BK241 := n3_; have HI231 := n4_; have HB := n5_; have HO268 := n6_; clear n0_ n1_ n2_ n3_ n4_ n5_ n6_; clear ho hb hg hat))
              go_roundg kj19
              case measure => have := HK1.out; have := HK2.out; have := HJ19.out; omega
              case rel => exact ⟨(y266), ((rd_T54 t236 x10_2).f3), (wrap64 (x8_1 - 1)), (x232001_19), (x232002_19), zF, zF, H', ⟨by have := HK1.out; have := HK2.out; have := HJ19.out; omega⟩, ⟨zR HO268⟩, ⟨zR HO_242001⟩, ⟨zR HO_242002⟩, ⟨zK BK227⟩, ⟨zK BK241⟩, ⟨by repeat (first | (with_reducible first | exact HI231.out | apply IsS77.alloc | apply IsS77.drewN | apply IsS77.drew | apply IsS77.set_1 | apply IsS77.set_2 | refine IsS77.far ?_ NB231_227.out _ | refine IsS77.far ?_ NB231_241.out _) | exact HI231.out)⟩, ⟨by repeat (first | (with_reducible first | exact HB.out | apply below_alloc | apply pw_below_drewN | apply below_drew1 | refine below_set ?_ (IsS77.ge HI231.out) | refine below_set ?_ GE227.out | refine below_set ?_ GE241.out) | exact HB.out)⟩⟩
             ·rw [if_neg c41] at H
              exact absurd H (by simp)
           ·rw [if_neg c33] at H
            have c33b0 : (((rd_T54 t236 x10_2).f0) == x7_2) = false := beq_eq_false_iff_ne.mpr c33
            have c33b1 : (((rd_T54 t236 x10_2).f0) != x7_2) = true := bne_iff_ne.mpr c33
            have H' := Aside0.mk H
            clear H
            have hnb46 := NB241_227.out
            have hnc46 := NB227_241.out
            have hnb47 := NB241_231.out
            have hnc47 := NB231_241.out
            have hcz48_0 := bc0 BK241
            have hcz48_1 := bc1 BK241
            have hcz48_2 := bc2 BK241
            have hfz48_0 := bf BK241 0
            have hfz48_1 := bf BK241 1
            have hfz48_2 := bf BK241 2
            have p257 : 0 ≤ (x10_2 : Int) := of_decide_eq_true (by first | (with_reducible assumption) | assumption)
            have q257 : x10_2 < (t236.length : Int) := of_decide_eq_true (by first | (with_reducible assumption) | assumption)
            obtain ⟨ad257, e257, hx257_0, hx257_1, hx257_2, hx257_3⟩ := at_T54 (Kd.R_reads' HO_242002.out).2.2 x10_2 p257 q257
            cases e257
            replace p257 := eq_true p257
            replace q257 := eq_true q257
            go_wp2
            go_roundg kj19
            case measure => have := HK1.out; have := HK2.out; have := HJ19.out; omega
            case rel => exact ⟨(x7_2), (x9_2), (wrap64 (x10_2 + 1)), (x232001_19), (x232002_19), zF, zF, zF, H', ⟨by have := HK1.out; have := HK2.out; have := HJ19.out; omega⟩, ⟨zR HO_6⟩, ⟨zR HO_242001⟩, ⟨zR HO_242002⟩, ⟨zK BK227⟩, ⟨zK BK241⟩, ⟨by repeat (first | (with_reducible first | exact HI231.out | apply IsS77.alloc | apply IsS77.drewN | apply IsS77.drew | apply IsS77.set_1 | apply IsS77.set_2 | refine IsS77.far ?_ NB231_227.out _ | refine IsS77.far ?_ NB231_241.out _) | exact HI231.out)⟩, ⟨by repeat (first | (with_reducible first | exact HB.out | apply below_alloc | apply pw_below_drewN | apply below_drew1 | refine below_set ?_ (IsS77.ge HI231.out) | refine below_set ?_ GE227.out | refine below_set ?_ GE241.out) | exact HB.out)⟩⟩
          ·rw [if_neg c32] at H
           exact absurd H (by simp)
         ·rw [if_neg c31] at H
          exact absurd H (by simp)
        ·replace c30 := Bool.eq_false_iff.mpr c30
         subst c30
         have H1 : (if x6_1.length < 17592186044416 then (spec_DrawRunMachine.l0 kj19 (x6_1 ++ [x9_2]) x7_2 (wrap64 (x8_1 - 1)) t228 x232001_19 x232002_19 t232 t233 t236) else (none)) = some (r1, r2, r3, r4) := by rw [if_neg (show ¬ (false = true) by decide)] at H; exact H
         clear H
         have H := H1
         clear H1
         by_cases c49 : x6_1.length < 17592186044416
         ·rw [if_pos c49] at H
          have LMc49 := Aside0.mk c49
          clear c49
          obtain ⟨y254, hy254⟩ : ∃ y_ : List Int, y_ = (x6_1 ++ [x9_2]) := ⟨_, rfl⟩
          replace H : (spec_DrawRunMachine.l0 kj19 y254 x7_2 (wrap64 (x8_1 - 1)) t228 x232001_19 x232002_19 t232 t233 t236) = some (r1, r2, r3, r4) := by first | (rw [hy254]; with_reducible exact H) | (have H2_ := (Option.bind_some _ _).symm.trans H; rw [hy254]; with_reducible exact H2_) | (have H2_ := (Option.bind_some _ _).symm.trans H; with_reducible exact H2_) | with_reducible exact H | (rw [hy254]; exact H) | exact H
          have Ny254 := Aside0.mk hy254
          clear hy254
          have H' := Aside0.mk H
          clear H
          go_wp2_with (first | ((with_reducible refine gate_builtin (b := .append) (xs := #[.tmp 71, .tmp 73]) rfl ?_); at_builtin; refine Kd.R_append (Kd.int .i64) (w0 := w) w.heap.size rfl (.tmp 71) (.tmp 73) 37 3 (.int .i64 0) 8 rfl Try.underlying37 info3 rfl (by decide) (by omega) u6 x6_1 x9_2 [.int .i64 x9_2] (fun _ => True) (fun _ => False) rfl rfl ?aP (fun _ hk => hk.elim) ?aF ?aO ?aB ?aS ?aL ?_; (case aP => exact rfl); (case aB => exact (by repeat (first | (with_reducible first | exact HB.out | apply below_alloc | apply pw_below_drewN | apply below_drew1 | refine below_set ?_ (IsS77.ge HI231.out) | refine below_set ?_ GE227.out | refine below_set ?_ GE241.out) | exact HB.out))); (case aF => exact (fun _ _ => trivial)); (case aO => exact (zR HO_6)); (case aS => exact (below_size (by repeat (first | (with_reducible first | exact HB.out | apply below_alloc | apply pw_below_drewN | apply below_drew1 | refine below_set ?_ (IsS77.ge HI231.out) | refine below_set ?_ GE227.out | refine below_set ?_ GE241.out) | exact HB.out)))); (case aL => have := LMc49.out; omega); intro v255 w50 ho hb hg hat; rw [← Ny254.out] at ho; have n0_ := Aside0.mk (Kd.R_over' (zR HO_242001) (Kd.R_typed (zR HO_6)) (by decide) hg); have n1_ := Aside0.mk (Kd.R_over' (zR HO_242002) (Kd.R_typed (zR HO_6)) (by decide) hg); have n2_ := Aside0.mk (blk_grown (g := gb227) (o := .cells #[.int .i64 0, .slice none 0 0, .slice none 0 0] 29 (0, 0)) (zK BK227) hg (Kd.R_ne HO_6.out BK227.out (by decide))); have n3_ := Aside0.mk (blk_grown (g := gb241) (o := .cells #[.int .i64 t232, .slice Ao12 t233.length co12, .slice Ao13 t236.length co13] 29 (0, 0)) (zK BK241) hg (Kd.R_ne HO_6.out BK241.out (by decide))); have n4_ := Aside0.mk (IsS77.grown (by repeat (first | (with_reducible first | exact HI231.out | apply IsS77.alloc | apply IsS77.drewN | apply IsS77.drew | apply IsS77.set_1 | apply IsS77.set_2 | refine IsS77.far ?_ NB231_227.out _ | refine IsS77.far ?_ NB231_241.out _) | exact HI231.out)) hg (IsS77.own_ne HI231.out HO_6.out (by decide))); have n5_ := Aside0.mk (hb); have n6_ := Aside0.mk (ho); clear HO_242001; clear HO_242002; clear BK227; clear BK241; clear HI231; clear HB; clear HO_6; have HO_242001 := n0_; have HO_242002 := n1_; have BK227 := n2_; have BK241 := n3_; have HI231 := n4_; have HB := n5_; have HO256 := n6_; clear n0_ n1_ n2_ n3_ n4_ n5_ n6_; clear ho hb hg hat))
          go_roundg kj19
          case measure => have := HK1.out; have := HK2.out; have := HJ19.out; omega
          case rel => exact ⟨(y254), (x7_2), (wrap64 (x8_1 - 1)), (x232001_19), (x232002_19), zF, zF, H', ⟨by have := HK1.out; have := HK2.out; have := HJ19.out; omega⟩, ⟨zR HO256⟩, ⟨zR HO_242001⟩, ⟨zR HO_242002⟩, ⟨zK BK227⟩, ⟨zK BK241⟩, ⟨by repeat (first | (with_reducible first | exact HI231.out | apply IsS77.alloc | apply IsS77.drewN | apply IsS77.drew | apply IsS77.set_1 | apply IsS77.set_2 | refine IsS77.far ?_ NB231_227.out _ | refine IsS77.far ?_ NB231_241.out _) | exact HI231.out)⟩, ⟨by repeat (first | (with_reducible first | exact HB.out | apply below_alloc | apply pw_below_drewN | apply below_drew1 | refine below_set ?_ (IsS77.ge HI231.out) | refine below_set ?_ GE227.out | refine below_set ?_ GE241.out) | exact HB.out)⟩⟩
         ·rw [if_neg c49] at H
          exact absurd H (by simp)
   ·rw [if_neg c17] at H
    have c17b0 : decide (0 < x8_1) = false := decide_eq_false c17
    clear c17
    replace H := Option.bind_eq_some_iff.mp H
    obtain ⟨⟨t269, t270, t271⟩, A510, H⟩ := H
    replace H : (if t269 = true then ((spec_l1Int.f t228 t270 t271 (([9223372036854775807, (-9223372036854775808)] : List Int))).bind fun bt275 => (if x6_1.length < 17592186044416 then (some (t232, t233, t236, (x6_1 ++ [bt275.1]))) else (none))) else (some (t232, t233, t236, x6_1))) = some (r1, r2, r3, r4) := H
    have A51 := Aside0.mk A510
    clear A510
    by_cases c52 : t269 = true
    ·subst c52
     have H1 : ((spec_l1Int.f t228 t270 t271 (([9223372036854775807, (-9223372036854775808)] : List Int))).bind fun bt275 => (if x6_1.length < 17592186044416 then (some (t232, t233, t236, (x6_1 ++ [bt275.1]))) else (none))) = some (r1, r2, r3, r4) := by rw [if_pos rfl] at H; exact H
     clear H
     have H := H1
     clear H1
     obtain ⟨y272, hy272⟩ : ∃ y_ : List Int, y_ = (([9223372036854775807, (-9223372036854775808)] : List Int)) := ⟨_, rfl⟩
     replace H : ((spec_l1Int.f t228 t270 t271 y272).bind fun bt275 => (if x6_1.length < 17592186044416 then (some (t232, t233, t236, (x6_1 ++ [bt275.1]))) else (none))) = some (r1, r2, r3, r4) := by first | (rw [hy272]; with_reducible exact H) | (have H2_ := (Option.bind_some _ _).symm.trans H; rw [hy272]; with_reducible exact H2_) | (have H2_ := (Option.bind_some _ _).symm.trans H; with_reducible exact H2_) | with_reducible exact H | (rw [hy272]; exact H) | exact H
     have Ny272 := Aside0.mk hy272
     clear hy272
     replace H := Option.bind_eq_some_iff.mp H
     obtain ⟨⟨t275, t276, t277⟩, A530, H⟩ := H
     replace H : (if x6_1.length < 17592186044416 then (some (t232, t233, t236, (x6_1 ++ [t275]))) else (none)) = some (r1, r2, r3, r4) := H
     have A53 := Aside0.mk A530
     clear A530
     by_cases c54 : x6_1.length < 17592186044416
     ·rw [if_pos c54] at H
      have LMc54 := Aside0.mk c54
      clear c54
      obtain ⟨y278, hy278⟩ : ∃ y_ : List Int, y_ = (x6_1 ++ [t275]) := ⟨_, rfl⟩
      replace H : (some (t232, t233, t236, y278)) = some (r1, r2, r3, r4) := by first | (rw [hy278]; with_reducible exact H) | (have H2_ := (Option.bind_some _ _).symm.trans H; rw [hy278]; with_reducible exact H2_) | (have H2_ := (Option.bind_some _ _).symm.trans H; with_reducible exact H2_) | with_reducible exact H | (rw [hy278]; exact H) | exact H
      have Ny278 := Aside0.mk hy278
      clear hy278
      simp only [Option.some.injEq, Prod.mk.injEq] at H
      obtain ⟨rfl, rfl, rfl, rfl⟩ := H
      go_wp2_with (first | ((with_reducible refine gate_callee (f := 39) rfl ?_); refine goesL_ (some 76) rfl rfl Try.func39 (by kernel_rfl) rfl #[.pointer (some ⟨g231, 0, none⟩), .int .i64 12] rfl zG ?_; (with_reducible refine (spec_l1Once.calls g231 t228 x232001_1 x232002_1 12 true t270 t271 w _ ?side1 ?side2 A51.out).mono ?_); (case side1 => repeat (first | (with_reducible first | exact HI231.out | apply IsS77.alloc | apply IsS77.drewN | apply IsS77.drew | apply IsS77.set_1 | apply IsS77.set_2 | refine IsS77.far ?_ NB231_227.out _ | refine IsS77.far ?_ NB231_241.out _) | exact HI231.out)); (case side2 => repeat (first | (with_reducible first | exact HB.out | apply below_alloc | apply pw_below_drewN | apply below_drew1 | refine below_set ?_ (IsS77.ge HI231.out) | refine below_set ?_ GE227.out | refine below_set ?_ GE241.out) | exact HB.out)); rintro e w55 ⟨rfl, hi, hb, hk⟩; refine ⟨_, rfl, ?_⟩; have n0_ := Aside0.mk (Kd.R_mono (Kd.R_keep (IsS77.apart (show IsS77 w _ g231 t228 x232001_1 x232002_1 from by repeat (first | (with_reducible first | exact HI231.out | apply IsS77.alloc | apply IsS77.drewN | apply IsS77.drew | apply IsS77.set_1 | apply IsS77.set_2 | refine IsS77.far ?_ NB231_227.out _ | refine IsS77.far ?_ NB231_241.out _) | exact HI231.out)) (zR HO_6) (by decide)) hk (fun _ h => h.2)) (fun _ h => h.1)); have n1_ := Aside0.mk (Kd.R_mono (Kd.R_keep (IsS77.apart (show IsS77 w _ g231 t228 x232001_1 x232002_1 from by repeat (first | (with_reducible first | exact HI231.out | apply IsS77.alloc | apply IsS77.drewN | apply IsS77.drew | apply IsS77.set_1 | apply IsS77.set_2 | refine IsS77.far ?_ NB231_227.out _ | refine IsS77.far ?_ NB231_241.out _) | exact HI231.out)) (zR HO_242001) (by decide)) hk (fun _ h => h.2)) (fun _ h => h.1)); have n2_ := Aside0.mk (Kd.R_mono (Kd.R_keep (IsS77.apart (show IsS77 w _ g231 t228 x232001_1 x232002_1 from by repeat (first | (with_reducible first | exact HI231.out | apply IsS77.alloc | apply IsS77.drewN | apply IsS77.drew | apply IsS77.set_1 | apply IsS77.set_2 | refine IsS77.far ?_ NB231_227.out _ | refine IsS77.far ?_ NB231_241.out _) | exact HI231.out)) (zR HO_242002) (by decide)) hk (fun _ h => h.2)) (fun _ h => h.1)); have n3_ := Aside0.mk (KeepBut.blk hk (g' := gb227) (o := .cells #[.int .i64 0, .slice none 0 0, .slice none 0 0] 29 (0, 0)) (zK BK227) NB227_231.out (by simp)); have n4_ := Aside0.mk (KeepBut.blk hk (g' := gb241) (o := .cells #[.int .i64 t232, .slice Ao12 t233.length co12, .slice Ao13 t236.length co13] 29 (0, 0)) (zK BK241) NB241_231.out (by simp)); have n5_ := Aside0.mk (hb); have n6_ := Aside0.mk (hi); clear HO_6; clear HO_242001; clear HO_242002; clear BK227; clear BK241; clear HB; clear HI231; have HO_6 := n0_; have HO_242001 := n1_; have HO_242002 := n2_; have BK227 := n3_; have BK241 := n4_; have HB := n5_; have HI231 := n6_; clear n0_ n1_ n2_ n3_ n4_ n5_ n6_; (try clear hb)) | ((with_reducible refine gate_dst (N := 79) rfl ?_); refine Kd.R_lit (Kd.int .i64) _ 3 ?hg (N := 79) ?hd (xs := ([9223372036854775807, (-9223372036854775808)] : List Int)) (inner := [.int .i64 9223372036854775807, .int .i64 (-9223372036854775808)]) (ok := fun _ => True) (okp := fun _ => True) ?hr ?hp (fun _ hk => hk) trivial (Below.refl _ _) (Nat.le_refl _) (by simp) ?_; (case hd => rfl); (case hg => rfl); (case hr => first | (go_simp; done) | (go_simp; rfl)); (case hp => exact (Reps.one (show Kd.M (Kd.int .i64) _ _ _ 9223372036854775807 [.int .i64 9223372036854775807] from rfl) (Reps.one (show Kd.M (Kd.int .i64) _ _ _ (-9223372036854775808) [.int .i64 (-9223372036854775808)] from rfl) (Reps.none _ _)))); intro v273 w56 ho57 hb hg_ hnew_; clear hg_ hnew_; (first | rw [← Ny272.out] at ho57 | (simp only [Int.reduceToNat] at ho57; rw [← Ny272.out] at ho57)); have n0_ := Aside0.mk (Kd.R_elder' (zR HO_6) (Kd.R_base ho57) hb); have n1_ := Aside0.mk (Kd.R_below (zR HO_242001) hb); have n2_ := Aside0.mk (Kd.R_below (zR HO_242002) hb); have n3_ := Aside0.mk (Kd.R_lower (Kd.R_new' ho57 (Kd.R_lt (zR HO_6))) (below_size (by repeat (first | (with_reducible first | exact HB.out | apply below_alloc | apply pw_below_drewN | apply below_drew1 | refine below_set ?_ (IsS77.ge HI231.out) | refine below_set ?_ GE227.out | refine below_set ?_ GE241.out) | exact HB.out)))); have n4_ := kB BK227 hb; have n5_ := kB BK241 hb; have n6_ := Aside0.mk (IsS77.below (by repeat (first | (with_reducible first | exact HI231.out | apply IsS77.alloc | apply IsS77.drewN | apply IsS77.drew | apply IsS77.set_1 | apply IsS77.set_2 | refine IsS77.far ?_ NB231_227.out _ | refine IsS77.far ?_ NB231_241.out _) | exact HI231.out)) hb); have n7_ := Aside0.mk (below_step (by repeat (first | (with_reducible first | exact HB.out | apply below_alloc | apply pw_below_drewN | apply below_drew1 | refine below_set ?_ (IsS77.ge HI231.out) | refine below_set ?_ GE227.out | refine below_set ?_ GE241.out) | exact HB.out)) hb); clear HO_6; clear HO_242001; clear HO_242002; clear BK227; clear BK241; clear HI231; clear HB; have HO_6 := n0_; have HO_242001 := n1_; have HO_242002 := n2_; have HO274 := n3_; have BK227 := n4_; have BK241 := n5_; have HI231 := n6_; have HB := n7_; clear n0_ n1_ n2_ n3_ n4_ n5_ n6_ n7_; clear hb ho57; obtain ⟨Ao58, co58, eo58⟩ := Kd.R_slice HO274.out; subst eo58) | ((with_reducible refine gate_callee (f := 40) rfl ?_); refine goesL_ (some 80) rfl rfl Try.func40 (by kernel_rfl) rfl #[.pointer (some ⟨g231, 0, none⟩), .slice Ao58 y272.length co58] rfl zG ?_; (with_reducible refine (spec_l1Int.calls g231 t228 t270 t271 _ _ y272 t275 t276 t277 w _ ?side1 ?side2 ?side3 ?side4 ?side5 A53.out).mono ?_); (case side1 => repeat (first | (with_reducible first | exact HI231.out | apply IsS77.alloc | apply IsS77.drewN | apply IsS77.drew | apply IsS77.set_1 | apply IsS77.set_2 | refine IsS77.far ?_ NB231_227.out _ | refine IsS77.far ?_ NB231_241.out _) | exact HI231.out)); (case side2 => repeat (first | (with_reducible first | exact HB.out | apply below_alloc | apply pw_below_drewN | apply below_drew1 | refine below_set ?_ (IsS77.ge HI231.out) | refine below_set ?_ GE227.out | refine below_set ?_ GE241.out) | exact HB.out)); (case side3 => repeat (first | exact (Kd.R_reads' HO274.out).2.2 | (with_reducible refine Kd.C_alloc ?_ _) | (with_reducible refine Kd.C_drewN ?_ _) | (with_reducible refine Kd.C_drew ?_))); (case side4 => exact (Kd.R_reads' HO274.out).2.1); (case side5 => exact far_slice (IsS77.own_ne HI231.out HO274.out (by decide))); rintro e w59 ⟨rfl, hi, hb, hk⟩; refine ⟨_, rfl, ?_⟩; have n0_ := Aside0.mk (Kd.R_mono (Kd.R_keep (IsS77.apart (show IsS77 w _ g231 t228 t270 t271 from by repeat (first | (with_reducible first | exact HI231.out | apply IsS77.alloc | apply IsS77.drewN | apply IsS77.drew | apply IsS77.set_1 | apply IsS77.set_2 | refine IsS77.far ?_ NB231_227.out _ | refine IsS77.far ?_ NB231_241.out _) | exact HI231.out)) (zR HO_6) (by decide)) hk (fun _ h => h.2)) (fun _ h => h.1)); have n1_ := Aside0.mk (Kd.R_mono (Kd.R_keep (IsS77.apart (show IsS77 w _ g231 t228 t270 t271 from by repeat (first | (with_reducible first | exact HI231.out | apply IsS77.alloc | apply IsS77.drewN | apply IsS77.drew | apply IsS77.set_1 | apply IsS77.set_2 | refine IsS77.far ?_ NB231_227.out _ | refine IsS77.far ?_ NB231_241.out _) | exact HI231.out)) (zR HO_242001) (by decide)) hk (fun _ h => h.2)) (fun _ h => h.1)); have n2_ := Aside0.mk (Kd.R_mono (Kd.R_keep (IsS77.apart (show IsS77 w _ g231 t228 t270 t271 from by repeat (first | (with_reducible first | exact HI231.out | apply IsS77.alloc | apply IsS77.drewN | apply IsS77.drew | apply IsS77.set_1 | apply IsS77.set_2 | refine IsS77.far ?_ NB231_227.out _ | refine IsS77.far ?_ NB231_241.out _) | exact HI231.out)) (zR HO_242002) (by decide)) hk (fun _ h => h.2)) (fun _ h => h.1)); have n3_ := Aside0.mk (KeepBut.blk hk (g' := gb227) (o := .cells #[.int .i64 0, .slice none 0 0, .slice none 0 0] 29 (0, 0)) (zK BK227) NB227_231.out (by simp)); have n4_ := Aside0.mk (KeepBut.blk hk (g' := gb241) (o := .cells #[.int .i64 t232, .slice Ao12 t233.length co12, .slice Ao13 t236.length co13] 29 (0, 0)) (zK BK241) NB241_231.out (by simp)); have n5_ := Aside0.mk (Kd.R_mono (Kd.R_keep (IsS77.apart (show IsS77 w _ g231 t228 t270 t271 from by repeat (first | (with_reducible first | exact HI231.out | apply IsS77.alloc | apply IsS77.drewN | apply IsS77.drew | apply IsS77.set_1 | apply IsS77.set_2 | refine IsS77.far ?_ NB231_227.out _ | refine IsS77.far ?_ NB231_241.out _) | exact HI231.out)) (zR HO274) (by decide)) hk (fun _ h => h.2)) (fun _ h => h.1)); have n6_ := Aside0.mk (hb); have n7_ := Aside0.mk (hi); clear HO_6; clear HO_242001; clear HO_242002; clear BK227; clear BK241; clear HO274; clear HB; clear HI231; have HO_6 := n0_; have HO_242001 := n1_; have HO_242002 := n2_; have BK227 := n3_; have BK241 := n4_; have HO274 := n5_; have HB := n6_; have HI231 := n7_; clear n0_ n1_ n2_ n3_ n4_ n5_ n6_ n7_; (try clear hb)) | ((with_reducible refine gate_builtin (b := .append) (xs := #[.tmp 77, .tmp 81]) rfl ?_); at_builtin; refine Kd.R_append (Kd.int .i64) (w0 := w) w.heap.size rfl (.tmp 77) (.tmp 81) 37 3 (.int .i64 0) 8 rfl Try.underlying37 info3 rfl (by decide) (by omega) u6 x6_1 t275 [.int .i64 t275] (fun k_ => some k_ ≠ (.slice Ao58 y272.length co58 : Value).ownBlock) (fun _ => False) rfl rfl ?aP (fun _ hk => hk.elim) ?aF ?aO ?aB ?aS ?aL ?_; (case aP => exact rfl); (case aB => exact (by repeat (first | (with_reducible first | exact HB.out | apply below_alloc | apply pw_below_drewN | apply below_drew1 | refine below_set ?_ (IsS77.ge HI231.out) | refine below_set ?_ GE227.out | refine below_set ?_ GE241.out) | exact HB.out))); (case aF => exact (fun k_ hk => Kd.fresh' (Kd.R_lt (zR HO274)) k_ hk)); (case aO => exact (by (with_reducible repeat (first | apply Kd.R_alloc | apply Kd.R_drewN | apply Kd.R_drew)); exact Kd.R_mono HO_6.out (fun _ hk => hk.2))); (case aS => exact (below_size (by repeat (first | (with_reducible first | exact HB.out | apply below_alloc | apply pw_below_drewN | apply below_drew1 | refine below_set ?_ (IsS77.ge HI231.out) | refine below_set ?_ GE227.out | refine below_set ?_ GE241.out) | exact HB.out)))); (case aL => have := LMc54.out; omega); intro v279 w60 ho hb hg hat; rw [← Ny278.out] at ho; have n0_ := Aside0.mk (Kd.R_over' (zR HO_242001) (Kd.R_typed (zR HO_6)) (by decide) hg); have n1_ := Aside0.mk (Kd.R_over' (zR HO_242002) (Kd.R_typed (zR HO_6)) (by decide) hg); have n2_ := Aside0.mk (blk_grown (g := gb227) (o := .cells #[.int .i64 0, .slice none 0 0, .slice none 0 0] 29 (0, 0)) (zK BK227) hg (Kd.R_ne HO_6.out BK227.out (by decide))); have n3_ := Aside0.mk (blk_grown (g := gb241) (o := .cells #[.int .i64 t232, .slice Ao12 t233.length co12, .slice Ao13 t236.length co13] 29 (0, 0)) (zK BK241) hg (Kd.R_ne HO_6.out BK241.out (by decide))); have n4_ := Aside0.mk (IsS77.grown (by repeat (first | (with_reducible first | exact HI231.out | apply IsS77.alloc | apply IsS77.drewN | apply IsS77.drew | apply IsS77.set_1 | apply IsS77.set_2 | refine IsS77.far ?_ NB231_227.out _ | refine IsS77.far ?_ NB231_241.out _) | exact HI231.out)) hg (IsS77.own_ne HI231.out HO_6.out (by decide))); have n5_ := Aside0.mk (Kd.R_after (ok := (fun _ => True)) (zR HO274) hg hat); have n6_ := Aside0.mk (hb); have n7_ := Aside0.mk (ho); clear HO_242001; clear HO_242002; clear BK227; clear BK241; clear HI231; clear HO274; clear HB; clear HO_6; have HO_242001 := n0_; have HO_242002 := n1_; have BK227 := n2_; have BK241 := n3_; have HI231 := n4_; have HO274 := n5_; have HB := n6_; have HO280 := n7_; clear n0_ n1_ n2_ n3_ n4_ n5_ n6_ n7_; clear ho hb hg hat; have hnb61 := NB241_227.out; have hnc61 := NB227_241.out; have hnb62 := NB241_231.out; have hnc62 := NB231_241.out; have hcz63_0 := bc0 BK241; have hcz63_1 := bc1 BK241; have hcz63_2 := bc2 BK241; have hfz63_0 := bf BK241 0; have hfz63_1 := bf BK241 1; have hfz63_2 := bf BK241 2; have hnb64 := NB227_231.out; have hnc64 := NB231_227.out; have hcz65_0 := bc0 BK227; have hcz65_1 := bc1 BK227; have hcz65_2 := bc2 BK227; have hfz65_0 := bf BK227 0; have hfz65_1 := bf BK227 1; have hfz65_2 := bf BK227 2))
      refine bodyPost_ret (results_ct rfl _ _ gb227 29 #[.int .i64 t232, .slice Ao12 t233.length co12, .slice Ao13 t236.length co13] (0, 0) _ rfl (by (with_reducible repeat (first | refine blk_drewN ?_ _ | refine blk_drew ?_ | refine blk_alloc ?_ _)); refine blk_put (cs := #[.int .i64 t232, .slice Ao12 t233.length co12, .slice none 0 0]) ?_ 2 _ rfl; (with_reducible repeat (first | refine blk_drewN ?_ _ | refine blk_drew ?_ | refine blk_alloc ?_ _)); refine blk_put (cs := #[.int .i64 t232, .slice none 0 0, .slice none 0 0]) ?_ 1 _ rfl; (with_reducible repeat (first | refine blk_drewN ?_ _ | refine blk_drew ?_ | refine blk_alloc ?_ _)); refine blk_put (cs := #[.int .i64 0, .slice none 0 0, .slice none 0 0]) ?_ 0 _ rfl; (with_reducible repeat (first | refine blk_drewN ?_ _ | refine blk_drew ?_ | refine blk_alloc ?_ _)); exact BK227.out) Try.underlying29 rfl (by kernel_rfl)) rfl ?_
      exact ⟨_, _, _, by first | rfl | (simp [errW_none, errW_some] <;> rfl) | (simp [*, errW_none, errW_some] <;> rfl), by (with_reducible repeat (first | apply Kd.R_alloc | apply Kd.R_drewN | apply Kd.R_drew)); exact Kd.R_mono (Kd.R_far (p := ⟨gb227, 2, none⟩) (Kd.R_far (p := ⟨gb227, 1, none⟩) (Kd.R_far (p := ⟨gb227, 0, none⟩) (Kd.R_types HO_242001.out BK227.out (by decide)) (fun _ hk => hk.2) (.int .i64 t232)) (fun _ hk => hk.2) (.slice Ao12 t233.length co12)) (fun _ hk => hk.2) (.slice Ao13 t236.length co13)) (fun _ hk => trivial), by (with_reducible repeat (first | apply Kd.R_alloc | apply Kd.R_drewN | apply Kd.R_drew)); exact Kd.R_mono (Kd.R_far (p := ⟨gb227, 2, none⟩) (Kd.R_far (p := ⟨gb227, 1, none⟩) (Kd.R_far (p := ⟨gb227, 0, none⟩) (Kd.R_types HO_242002.out BK227.out (by decide)) (fun _ hk => hk.2) (.int .i64 t232)) (fun _ hk => hk.2) (.slice Ao12 t233.length co12)) (fun _ hk => hk.2) (.slice Ao13 t236.length co13)) (fun _ hk => trivial), by (with_reducible repeat (first | apply Kd.R_alloc | apply Kd.R_drewN | apply Kd.R_drew)); exact Kd.R_mono (Kd.R_far (p := ⟨gb227, 2, none⟩) (Kd.R_far (p := ⟨gb227, 1, none⟩) (Kd.R_far (p := ⟨gb227, 0, none⟩) (Kd.R_types HO280.out BK227.out (by decide)) (fun _ hk => hk.2) (.int .i64 t232)) (fun _ hk => hk.2) (.slice Ao12 t233.length co12)) (fun _ hk => hk.2) (.slice Ao13 t236.length co13)) (fun _ hk => trivial), by repeat (first | (with_reducible first | exact HB.out | apply below_alloc | apply pw_below_drewN | apply below_drew1 | refine below_set ?_ (IsS77.ge HI231.out) | refine below_set ?_ GE227.out | refine below_set ?_ GE241.out) | exact HB.out)⟩
     ·rw [if_neg c54] at H
      exact absurd H (by simp)
    ·replace c52 := Bool.eq_false_iff.mpr c52
     subst c52
     have H1 : (some (t232, t233, t236, x6_1)) = some (r1, r2, r3, r4) := by rw [if_neg (show ¬ (false = true) by decide)] at H; exact H
     clear H
     have H := H1
     clear H1
     simp only [Option.some.injEq, Prod.mk.injEq] at H
     obtain ⟨rfl, rfl, rfl, rfl⟩ := H
     go_wp2_with (first | ((with_reducible refine gate_callee (f := 39) rfl ?_); refine goesL_ (some 76) rfl rfl Try.func39 (by kernel_rfl) rfl #[.pointer (some ⟨g231, 0, none⟩), .int .i64 12] rfl zG ?_; (with_reducible refine (spec_l1Once.calls g231 t228 x232001_1 x232002_1 12 false t270 t271 w _ ?side1 ?side2 A51.out).mono ?_); (case side1 => repeat (first | (with_reducible first | exact HI231.out | apply IsS77.alloc | apply IsS77.drewN | apply IsS77.drew | apply IsS77.set_1 | apply IsS77.set_2 | refine IsS77.far ?_ NB231_227.out _ | refine IsS77.far ?_ NB231_241.out _) | exact HI231.out)); (case side2 => repeat (first | (with_reducible first | exact HB.out | apply below_alloc | apply pw_below_drewN | apply below_drew1 | refine below_set ?_ (IsS77.ge HI231.out) | refine below_set ?_ GE227.out | refine below_set ?_ GE241.out) | exact HB.out)); rintro e w66 ⟨rfl, hi, hb, hk⟩; refine ⟨_, rfl, ?_⟩; have n0_ := Aside0.mk (Kd.R_mono (Kd.R_keep (IsS77.apart (show IsS77 w _ g231 t228 x232001_1 x232002_1 from by repeat (first | (with_reducible first | exact HI231.out | apply IsS77.alloc | apply IsS77.drewN | apply IsS77.drew | apply IsS77.set_1 | apply IsS77.set_2 | refine IsS77.far ?_ NB231_227.out _ | refine IsS77.far ?_ NB231_241.out _) | exact HI231.out)) (zR HO_6) (by decide)) hk (fun _ h => h.2)) (fun _ h => h.1)); have n1_ := Aside0.mk (Kd.R_mono (Kd.R_keep (IsS77.apart (show IsS77 w _ g231 t228 x232001_1 x232002_1 from by repeat (first | (with_reducible first | exact HI231.out | apply IsS77.alloc | apply IsS77.drewN | apply IsS77.drew | apply IsS77.set_1 | apply IsS77.set_2 | refine IsS77.far ?_ NB231_227.out _ | refine IsS77.far ?_ NB231_241.out _) | exact HI231.out)) (zR HO_242001) (by decide)) hk (fun _ h => h.2)) (fun _ h => h.1)); have n2_ := Aside0.mk (Kd.R_mono (Kd.R_keep (IsS77.apart (show IsS77 w _ g231 t228 x232001_1 x232002_1 from by repeat (first | (with_reducible first | exact HI231.out | apply IsS77.alloc | apply IsS77.drewN | apply IsS77.drew | apply IsS77.set_1 | apply IsS77.set_2 | refine IsS77.far ?_ NB231_227.out _ | refine IsS77.far ?_ NB231_241.out _) | exact HI231.out)) (zR HO_242002) (by decide)) hk (fun _ h => h.2)) (fun _ h => h.1)); have n3_ := Aside0.mk (KeepBut.blk hk (g' := gb227) (o := .cells #[.int .i64 0, .slice none 0 0, .slice none 0 0] 29 (0, 0)) (zK BK227) NB227_231.out (by simp)); have n4_ := Aside0.mk (KeepBut.blk hk (g' := gb241) (o := .cells #[.int .i64 t232, .slice Ao12 t233.length co12, .slice Ao13 t236.length co13] 29 (0, 0)) (zK BK241) NB241_231.out (by simp)); have n5_ := Aside0.mk (hb); have n6_ := Aside0.mk (hi); clear HO_6; clear HO_242001; clear HO_242002; clear BK227; clear BK241; clear HB; clear HI231; have HO_6 := n0_; have HO_242001 := n1_; have HO_242002 := n2_; have BK227 := n3_; have BK241 := n4_; have HB := n5_; have HI231 := n6_; clear n0_ n1_ n2_ n3_ n4_ n5_ n6_; (try clear hb); have hnb67 := NB241_227.out; have hnc67 := NB227_241.out; have hnb68 := NB241_231.out; have hnc68 := NB231_241.out; have hcz69_0 := bc0 BK241; have hcz69_1 := bc1 BK241; have hcz69_2 := bc2 BK241; have hfz69_0 := bf BK241 0; have hfz69_1 := bf BK241 1; have hfz69_2 := bf BK241 2; have hnb70 := NB227_231.out; have hnc70 := NB231_227.out; have hcz71_0 := bc0 BK227; have hcz71_1 := bc1 BK227; have hcz71_2 := bc2 BK227; have hfz71_0 := bf BK227 0; have hfz71_1 := bf BK227 1; have hfz71_2 := bf BK227 2))
     refine bodyPost_ret (results_ct rfl _ _ gb227 29 #[.int .i64 t232, .slice Ao12 t233.length co12, .slice Ao13 t236.length co13] (0, 0) _ rfl (by (with_reducible repeat (first | refine blk_drewN ?_ _ | refine blk_drew ?_ | refine blk_alloc ?_ _)); refine blk_put (cs := #[.int .i64 t232, .slice Ao12 t233.length co12, .slice none 0 0]) ?_ 2 _ rfl; (with_reducible repeat (first | refine blk_drewN ?_ _ | refine blk_drew ?_ | refine blk_alloc ?_ _)); refine blk_put (cs := #[.int .i64 t232, .slice none 0 0, .slice none 0 0]) ?_ 1 _ rfl; (with_reducible repeat (first | refine blk_drewN ?_ _ | refine blk_drew ?_ | refine blk_alloc ?_ _)); refine blk_put (cs := #[.int .i64 0, .slice none 0 0, .slice none 0 0]) ?_ 0 _ rfl; (with_reducible repeat (first | refine blk_drewN ?_ _ | refine blk_drew ?_ | refine blk_alloc ?_ _)); exact BK227.out) Try.underlying29 rfl (by kernel_rfl)) rfl ?_
     exact ⟨_, _, _, by first | rfl | (simp [errW_none, errW_some] <;> rfl) | (simp [*, errW_none, errW_some] <;> rfl), by (with_reducible repeat (first | apply Kd.R_alloc | apply Kd.R_drewN | apply Kd.R_drew)); exact Kd.R_mono (Kd.R_far (p := ⟨gb227, 2, none⟩) (Kd.R_far (p := ⟨gb227, 1, none⟩) (Kd.R_far (p := ⟨gb227, 0, none⟩) (Kd.R_types HO_242001.out BK227.out (by decide)) (fun _ hk => hk.2) (.int .i64 t232)) (fun _ hk => hk.2) (.slice Ao12 t233.length co12)) (fun _ hk => hk.2) (.slice Ao13 t236.length co13)) (fun _ hk => trivial), by (with_reducible repeat (first | apply Kd.R_alloc | apply Kd.R_drewN | apply Kd.R_drew)); exact Kd.R_mono (Kd.R_far (p := ⟨gb227, 2, none⟩) (Kd.R_far (p := ⟨gb227, 1, none⟩) (Kd.R_far (p := ⟨gb227, 0, none⟩) (Kd.R_types HO_242002.out BK227.out (by decide)) (fun _ hk => hk.2) (.int .i64 t232)) (fun _ hk => hk.2) (.slice Ao12 t233.length co12)) (fun _ hk => hk.2) (.slice Ao13 t236.length co13)) (fun _ hk => trivial), by (with_reducible repeat (first | apply Kd.R_alloc | apply Kd.R_drewN | apply Kd.R_drew)); exact Kd.R_mono (Kd.R_far (p := ⟨gb227, 2, none⟩) (Kd.R_far (p := ⟨gb227, 1, none⟩) (Kd.R_far (p := ⟨gb227, 0, none⟩) (Kd.R_types HO_6.out BK227.out (by decide)) (fun _ hk => hk.2) (.int .i64 t232)) (fun _ hk => hk.2) (.slice Ao12 t233.length co12)) (fun _ hk => hk.2) (.slice Ao13 t236.length co13)) (fun _ hk => trivial), by repeat (first | (with_reducible first | exact HB.out | apply below_alloc | apply pw_below_drewN | apply below_drew1 | refine below_set ?_ (IsS77.ge HI231.out) | refine below_set ?_ GE227.out | refine below_set ?_ GE241.out) | exact HB.out)⟩

/-! ### slices_Equal_bool_bool: function 41 -/
def slices_Equal_bool_bool.l0 : Nat → List Bool → List Bool → Int → Int → Option (Bool)
 | 0, _, _, _, _ => none
 | k + 1, x0, x1, x12, x13 => if x13 < x12 then (if 0 ≤ x13 then (if x13 < (x0.length : Int) then (if x13 < (x1.length : Int) then (if ((rdOf false x0 x13) != (rdOf false x1 x13)) = true then (some false) else (slices_Equal_bool_bool.l0 k x0 x1 x12 (wrap64 (x13 + 1)))) else (none)) else (none)) else (none)) else (some true)
def slices_Equal_bool_bool.f (k : Nat) (l0 : List Bool) (l1 : List Bool) : Option (Bool) := if (l0.length : Int) = (l1.length : Int) then (slices_Equal_bool_bool.l0 k l0 l1 (l0.length : Int) 0) else (some false)
theorem slices_Equal_bool_bool.mono_l : ∀ k, (∀ y0 y1 y2 y3, LeO (slices_Equal_bool_bool.l0 k y0 y1 y2 y3) (slices_Equal_bool_bool.l0 (k + 1) y0 y1 y2 y3))
 | 0 => fun _ _ _ _ r h => by simp [slices_Equal_bool_bool.l0] at h
 | k + 1 => by
  have ih0 := slices_Equal_bool_bool.mono_l k
  ·intro y0 y1 y2 y3
   unfold slices_Equal_bool_bool.l0
   repeat' first
   | (with_reducible exact ih0 _ _ _ _)
   | (with_reducible exact LeO.refl _)
   | (with_reducible exact LeO.none _)
   | (with_reducible refine LeO.ite ?_ ?_)
   | (with_reducible refine LeO.bind ?_ (fun _ => ?_))
   | exact ih0 _ _ _ _
   | exact LeO.none _
   | refine LeO.ite ?_ ?_
   | refine LeO.bind ?_ (fun _ => ?_)
theorem slices_Equal_bool_bool.mono : ∀ a0 a1 k, LeO (slices_Equal_bool_bool.f k a0 a1) (slices_Equal_bool_bool.f (k + 1) a0 a1) := by
 intro a0 a1 k
 have ih0 := slices_Equal_bool_bool.mono_l k
 unfold slices_Equal_bool_bool.f
 repeat' first
   | (with_reducible exact ih0 _ _ _ _)
   | (with_reducible exact LeO.refl _)
   | (with_reducible exact LeO.none _)
   | (with_reducible refine LeO.ite ?_ ?_)
   | (with_reducible refine LeO.bind ?_ (fun _ => ?_))
   | exact ih0 _ _ _ _
   | exact LeO.none _
   | refine LeO.ite ?_ ?_
   | refine LeO.bind ?_ (fun _ => ?_)
set_option maxHeartbeats 8000000 in
set_option maxRecDepth 100000 in
theorem slices_Equal_bool_bool.calls (k : Nat) (A0 : Option Addr) (c0 : Nat) (l0 : List Bool) (A1 : Option Addr) (c1 : Nat) (l1 : List Bool) (r : Bool) (w : World) (hr0 : Kd.C Kd.bool w A0 l0.length l0) (hc0 : l0.length ≤ c0) (hr1 : Kd.C Kd.bool w A1 l1.length l1) (hc1 : l1.length ≤ c1) (h : slices_Equal_bool_bool.f k l0 l1 = some r) :
  Calls Try.prog 41 #[.slice A0 l0.length c0, .slice A1 l1.length c1] w fun e w' => e = .returned (.bool r) ∧ Drawn0 w w' := by
 have HR0 := Aside0.mk hr0
 have HC0 := Aside0.mk hc0
 clear hr0 hc0
 have HR1 := Aside0.mk hr1
 have HC1 := Aside0.mk hc1
 clear hr1 hc1
 have H : (if (l0.length : Int) = (l1.length : Int) then (slices_Equal_bool_bool.l0 k l0 l1 (l0.length : Int) 0) else (some false)) = some r := h
 clear h
 by_cases c3 : (l0.length : Int) = (l1.length : Int)
 ·rw [if_pos c3] at H
  have c3b0 : ((l0.length : Int) == (l1.length : Int)) = true := beq_iff_eq.mpr c3
  have c3b1 : ((l0.length : Int) != (l1.length : Int)) = false := bne_eq_false_iff_eq.mpr c3
  have c3b2 : (l0.length == l1.length) = true := by first | simpa using c3 | (simp at c3 ⊢; omega)
  clear c3
  have H' := Aside0.mk H
  clear H
  go_enter Try.func41, Try.ntmps41
  go_wp2
  repeat (go_quiet (fail); try go_wp2)
  go_loopg [13] k (fun kq v13 w' => ∃ (x13_1 : Int), v13 = .int .i64 x13_1 ∧ Aside0 (slices_Equal_bool_bool.l0 kq l0 l1 (l0.length : Int) x13_1 = some r) ∧ Aside0 (kq ≤ k) ∧ Drawn0 w w')
  case atStart => exact ⟨(0), zF, H', ⟨Nat.le_refl _⟩, by repeat (first | exact Drawn0.refl _ | apply Drawn0.step)⟩
  case round =>
   clear H'
   try clear c1
   try clear p2
   try clear c3
   try clear c3b0
   try clear c3b1
   try clear c3b2
   obtain ⟨x13_1, rfl, HA, HK1, ⟨m1, rfl⟩⟩ := hrel
   cases gk with
   | zero => exact absurd HA.out (by simp [slices_Equal_bool_bool.l0])
   | succ k1 =>
    have H := HA.out
    clear HA
    simp only [slices_Equal_bool_bool.l0] at H
    by_cases c4 : x13_1 < (l0.length : Int)
    ·rw [if_pos c4] at H
     have c4b0 : decide (x13_1 < (l0.length : Int)) = true := decide_eq_true c4
     clear c4
     by_cases c5 : 0 ≤ x13_1
     ·rw [if_pos c5] at H
      have c5b0 : decide (0 ≤ x13_1) = true := decide_eq_true c5
      clear c5
      by_cases c6 : x13_1 < (l0.length : Int)
      ·rw [if_pos c6] at H
       have c6b0 : decide (x13_1 < (l0.length : Int)) = true := decide_eq_true c6
       clear c6
       by_cases c7 : x13_1 < (l1.length : Int)
       ·rw [if_pos c7] at H
        have c7b0 : decide (x13_1 < (l1.length : Int)) = true := decide_eq_true c7
        clear c7
        by_cases c8 : ((rdOf false l0 x13_1) != (rdOf false l1 x13_1)) = true
        ·rw [if_pos c8] at H
         have c8b0 : ((rdOf false l0 x13_1) != (rdOf false l1 x13_1)) = true := c8
         (try (have c8b1 : decide ((rdOf false l0 x13_1) = (rdOf false l1 x13_1)) = false := by simpa using c8))
         (try (have c8b2 : ((rdOf false l0 x13_1) == (rdOf false l1 x13_1)) = false := by simpa using c8))
         (try (have c8b3 : ¬ ((rdOf false l0 x13_1) = (rdOf false l1 x13_1)) := by simpa using c8))
         clear c8
         obtain rfl := Option.some.inj H
         have p281 : 0 ≤ (x13_1 : Int) := of_decide_eq_true (by first | (with_reducible assumption) | assumption)
         have q281 : x13_1 < (l0.length : Int) := of_decide_eq_true (by first | (with_reducible assumption) | assumption)
         obtain ⟨ad281, e281, hx281_0⟩ := Kd.at_bool HR0.out x13_1 p281 q281
         cases e281
         replace p281 := eq_true p281
         replace q281 := eq_true q281
         have p282 : 0 ≤ (x13_1 : Int) := of_decide_eq_true (by first | (with_reducible assumption) | assumption)
         have q282 : x13_1 < (l1.length : Int) := of_decide_eq_true (by first | (with_reducible assumption) | assumption)
         obtain ⟨ad282, e282, hx282_0⟩ := Kd.at_bool HR1.out x13_1 p282 q282
         cases e282
         replace p282 := eq_true p282
         replace q282 := eq_true q282
         go_wp2
         repeat (go_quiet (fail); try go_wp2)
         go_ret
         exact ⟨by first | rfl | (simp; done) | (simp [*]; done), by repeat (first | exact Drawn0.refl _ | apply Drawn0.step)⟩
        ·rw [if_neg c8] at H
         have c8b0 : ((rdOf false l0 x13_1) != (rdOf false l1 x13_1)) = false := by simpa using c8
         (try (have c8b1 : decide ((rdOf false l0 x13_1) = (rdOf false l1 x13_1)) = true := by simpa using c8))
         (try (have c8b2 : ((rdOf false l0 x13_1) == (rdOf false l1 x13_1)) = true := by simpa using c8))
         clear c8
         have H' := Aside0.mk H
         clear H
         have p281 : 0 ≤ (x13_1 : Int) := of_decide_eq_true (by first | (with_reducible assumption) | assumption)
         have q281 : x13_1 < (l0.length : Int) := of_decide_eq_true (by first | (with_reducible assumption) | assumption)
         obtain ⟨ad281, e281, hx281_0⟩ := Kd.at_bool HR0.out x13_1 p281 q281
         cases e281
         replace p281 := eq_true p281
         replace q281 := eq_true q281
         have p282 : 0 ≤ (x13_1 : Int) := of_decide_eq_true (by first | (with_reducible assumption) | assumption)
         have q282 : x13_1 < (l1.length : Int) := of_decide_eq_true (by first | (with_reducible assumption) | assumption)
         obtain ⟨ad282, e282, hx282_0⟩ := Kd.at_bool HR1.out x13_1 p282 q282
         cases e282
         replace p282 := eq_true p282
         replace q282 := eq_true q282
         go_wp2
         repeat (go_quiet (fail); try go_wp2)
         go_roundg k1
         case measure => have := HK1.out; omega
         case rel => exact ⟨(wrap64 (x13_1 + 1)), zF, H', ⟨by have := HK1.out; omega⟩, by repeat (first | exact Drawn0.refl _ | apply Drawn0.step)⟩
       ·rw [if_neg c7] at H
        exact absurd H (by simp)
      ·rw [if_neg c6] at H
       exact absurd H (by simp)
     ·rw [if_neg c5] at H
      exact absurd H (by simp)
    ·rw [if_neg c4] at H
     have c4b0 : decide (x13_1 < (l0.length : Int)) = false := decide_eq_false c4
     clear c4
     obtain rfl := Option.some.inj H
     go_wp2
     repeat (go_quiet (fail); try go_wp2)
     go_ret
     exact ⟨by first | rfl | (simp; done) | (simp [*]; done), by repeat (first | exact Drawn0.refl _ | apply Drawn0.step)⟩
 ·rw [if_neg c3] at H
  have c3b0 : ((l0.length : Int) == (l1.length : Int)) = false := beq_eq_false_iff_ne.mpr c3
  have c3b1 : ((l0.length : Int) != (l1.length : Int)) = true := bne_iff_ne.mpr c3
  have c3b2 : (l0.length == l1.length) = false := by first | simpa using c3 | (simp at c3 ⊢; omega)
  obtain rfl := Option.some.inj H
  go_enter Try.func41, Try.ntmps41
  go_wp2
  repeat (go_quiet (fail); try go_wp2)
  go_ret
  exact ⟨by first | rfl | (simp; done) | (simp [*]; done), by repeat (first | exact Drawn0.refl _ | apply Drawn0.step)⟩

/-! ### impl_Move_42: function 42 -/
def impl_Move_42.l0 : Nat → List (S54) → List (S54) → Int → Int → Option (Bool)
 | 0, _, _, _, _ => none
 | k + 1, x0, x1, x12, x13 => if x13 < x12 then (if 0 ≤ x13 then (if x13 < (x0.length : Int) then (if x13 < (x1.length : Int) then (if (!(((rd_T54 x0 x13).f0) == ((rd_T54 x1 x13).f0)) || (!(((rd_T54 x0 x13).f1) == ((rd_T54 x1 x13).f1)) || (!(((rd_T54 x0 x13).f2) == ((rd_T54 x1 x13).f2)) || (!(((rd_T54 x0 x13).f3) == ((rd_T54 x1 x13).f3)))))) = true then (some false) else (impl_Move_42.l0 k x0 x1 x12 (wrap64 (x13 + 1)))) else (none)) else (none)) else (none)) else (some true)
def impl_Move_42.f (k : Nat) (l0 : List (S54)) (l1 : List (S54)) : Option (Bool) := if (l0.length : Int) = (l1.length : Int) then (impl_Move_42.l0 k l0 l1 (l0.length : Int) 0) else (some false)
theorem impl_Move_42.mono_l : ∀ k, (∀ y0 y1 y2 y3, LeO (impl_Move_42.l0 k y0 y1 y2 y3) (impl_Move_42.l0 (k + 1) y0 y1 y2 y3))
 | 0 => fun _ _ _ _ r h => by simp [impl_Move_42.l0] at h
 | k + 1 => by
  have ih0 := impl_Move_42.mono_l k
  ·intro y0 y1 y2 y3
   unfold impl_Move_42.l0
   repeat' first
   | (with_reducible exact ih0 _ _ _ _)
   | (with_reducible exact LeO.refl _)
   | (with_reducible exact LeO.none _)
   | (with_reducible refine LeO.ite ?_ ?_)
   | (with_reducible refine LeO.bind ?_ (fun _ => ?_))
   | exact ih0 _ _ _ _
   | exact LeO.none _
   | refine LeO.ite ?_ ?_
   | refine LeO.bind ?_ (fun _ => ?_)
theorem impl_Move_42.mono : ∀ a0 a1 k, LeO (impl_Move_42.f k a0 a1) (impl_Move_42.f (k + 1) a0 a1) := by
 intro a0 a1 k
 have ih0 := impl_Move_42.mono_l k
 unfold impl_Move_42.f
 repeat' first
   | (with_reducible exact ih0 _ _ _ _)
   | (with_reducible exact LeO.refl _)
   | (with_reducible exact LeO.none _)
   | (with_reducible refine LeO.ite ?_ ?_)
   | (with_reducible refine LeO.bind ?_ (fun _ => ?_))
   | exact ih0 _ _ _ _
   | exact LeO.none _
   | refine LeO.ite ?_ ?_
   | refine LeO.bind ?_ (fun _ => ?_)
set_option maxHeartbeats 8000000 in
set_option maxRecDepth 100000 in
theorem impl_Move_42.calls (k : Nat) (A0 : Option Addr) (c0 : Nat) (l0 : List (S54)) (A1 : Option Addr) (c1 : Nat) (l1 : List (S54)) (r : Bool) (w : World) (hr0 : Kd.C k54 w A0 l0.length l0) (hc0 : l0.length ≤ c0) (hr1 : Kd.C k54 w A1 l1.length l1) (hc1 : l1.length ≤ c1) (h : impl_Move_42.f k l0 l1 = some r) :
  Calls Try.prog 42 #[.slice A0 l0.length c0, .slice A1 l1.length c1] w fun e w' => e = .returned (.bool r) ∧ Drawn0 w w' := by
 have hu54 := Try.underlying54
 have HR0 := Aside0.mk hr0
 have HC0 := Aside0.mk hc0
 clear hr0 hc0
 have HR1 := Aside0.mk hr1
 have HC1 := Aside0.mk hc1
 clear hr1 hc1
 have H : (if (l0.length : Int) = (l1.length : Int) then (impl_Move_42.l0 k l0 l1 (l0.length : Int) 0) else (some false)) = some r := h
 clear h
 by_cases c3 : (l0.length : Int) = (l1.length : Int)
 ·rw [if_pos c3] at H
  have c3b0 : ((l0.length : Int) == (l1.length : Int)) = true := beq_iff_eq.mpr c3
  have c3b1 : ((l0.length : Int) != (l1.length : Int)) = false := bne_eq_false_iff_eq.mpr c3
  have c3b2 : (l0.length == l1.length) = true := by first | simpa using c3 | (simp at c3 ⊢; omega)
  clear c3
  have H' := Aside0.mk H
  clear H
  go_enter Try.func42, Try.ntmps42
  go_wp2
  repeat (go_quiet (fail); try go_wp2)
  go_loopg [13] k (fun kq v13 w' => ∃ (x13_1 : Int), v13 = .int .i64 x13_1 ∧ Aside0 (impl_Move_42.l0 kq l0 l1 (l0.length : Int) x13_1 = some r) ∧ Aside0 (kq ≤ k) ∧ Drawn0 w w')
  case atStart => exact ⟨(0), zF, H', ⟨Nat.le_refl _⟩, by repeat (first | exact Drawn0.refl _ | apply Drawn0.step)⟩
  case round =>
   clear H'
   try clear c1
   try clear p2
   try clear c3
   try clear c3b0
   try clear c3b1
   try clear c3b2
   obtain ⟨x13_1, rfl, HA, HK1, ⟨m1, rfl⟩⟩ := hrel
   cases gk with
   | zero => exact absurd HA.out (by simp [impl_Move_42.l0])
   | succ k1 =>
    have H := HA.out
    clear HA
    simp only [impl_Move_42.l0] at H
    by_cases c4 : x13_1 < (l0.length : Int)
    ·rw [if_pos c4] at H
     have c4b0 : decide (x13_1 < (l0.length : Int)) = true := decide_eq_true c4
     clear c4
     by_cases c5 : 0 ≤ x13_1
     ·rw [if_pos c5] at H
      have c5b0 : decide (0 ≤ x13_1) = true := decide_eq_true c5
      clear c5
      by_cases c6 : x13_1 < (l0.length : Int)
      ·rw [if_pos c6] at H
       have c6b0 : decide (x13_1 < (l0.length : Int)) = true := decide_eq_true c6
       clear c6
       by_cases c7 : x13_1 < (l1.length : Int)
       ·rw [if_pos c7] at H
        have c7b0 : decide (x13_1 < (l1.length : Int)) = true := decide_eq_true c7
        clear c7
        by_cases c8 : (!(((rd_T54 l0 x13_1).f0) == ((rd_T54 l1 x13_1).f0)) || (!(((rd_T54 l0 x13_1).f1) == ((rd_T54 l1 x13_1).f1)) || (!(((rd_T54 l0 x13_1).f2) == ((rd_T54 l1 x13_1).f2)) || (!(((rd_T54 l0 x13_1).f3) == ((rd_T54 l1 x13_1).f3)))))) = true
        ·rw [if_pos c8] at H
         have c8b0 : (!(((rd_T54 l0 x13_1).f0) == ((rd_T54 l1 x13_1).f0)) || (!(((rd_T54 l0 x13_1).f1) == ((rd_T54 l1 x13_1).f1)) || (!(((rd_T54 l0 x13_1).f2) == ((rd_T54 l1 x13_1).f2)) || (!(((rd_T54 l0 x13_1).f3) == ((rd_T54 l1 x13_1).f3)))))) = true := c8
         clear c8
         obtain rfl := Option.some.inj H
         have p283 : 0 ≤ (x13_1 : Int) := of_decide_eq_true (by first | (with_reducible assumption) | assumption)
         have q283 : x13_1 < (l0.length : Int) := of_decide_eq_true (by first | (with_reducible assumption) | assumption)
         obtain ⟨ad283, e283, hx283_0, hx283_1, hx283_2, hx283_3⟩ := at_T54 HR0.out x13_1 p283 q283
         cases e283
         replace p283 := eq_true p283
         replace q283 := eq_true q283
         have p284 : 0 ≤ (x13_1 : Int) := of_decide_eq_true (by first | (with_reducible assumption) | assumption)
         have q284 : x13_1 < (l1.length : Int) := of_decide_eq_true (by first | (with_reducible assumption) | assumption)
         obtain ⟨ad284, e284, hx284_0, hx284_1, hx284_2, hx284_3⟩ := at_T54 HR1.out x13_1 p284 q284
         cases e284
         replace p284 := eq_true p284
         replace q284 := eq_true q284
         go_wp2
         repeat (go_quiet (fail); try go_wp2)
         go_ret
         exact ⟨by first | rfl | (simp; done) | (simp [*]; done), by repeat (first | exact Drawn0.refl _ | apply Drawn0.step)⟩
        ·rw [if_neg c8] at H
         have c8b0 : (!(((rd_T54 l0 x13_1).f0) == ((rd_T54 l1 x13_1).f0)) || (!(((rd_T54 l0 x13_1).f1) == ((rd_T54 l1 x13_1).f1)) || (!(((rd_T54 l0 x13_1).f2) == ((rd_T54 l1 x13_1).f2)) || (!(((rd_T54 l0 x13_1).f3) == ((rd_T54 l1 x13_1).f3)))))) = false := by simpa using c8
         clear c8
         have H' := Aside0.mk H
         clear H
         have p283 : 0 ≤ (x13_1 : Int) := of_decide_eq_true (by first | (with_reducible assumption) | assumption)
         have q283 : x13_1 < (l0.length : Int) := of_decide_eq_true (by first | (with_reducible assumption) | assumption)
         obtain ⟨ad283, e283, hx283_0, hx283_1, hx283_2, hx283_3⟩ := at_T54 HR0.out x13_1 p283 q283
         cases e283
         replace p283 := eq_true p283
         replace q283 := eq_true q283
         have p284 : 0 ≤ (x13_1 : Int) := of_decide_eq_true (by first | (with_reducible assumption) | assumption)
         have q284 : x13_1 < (l1.length : Int) := of_decide_eq_true (by first | (with_reducible assumption) | assumption)
         obtain ⟨ad284, e284, hx284_0, hx284_1, hx284_2, hx284_3⟩ := at_T54 HR1.out x13_1 p284 q284
         cases e284
         replace p284 := eq_true p284
         replace q284 := eq_true q284
         go_wp2
         repeat (go_quiet (fail); try go_wp2)
         go_roundg k1
         case measure => have := HK1.out; omega
         case rel => exact ⟨(wrap64 (x13_1 + 1)), zF, H', ⟨by have := HK1.out; omega⟩, by repeat (first | exact Drawn0.refl _ | apply Drawn0.step)⟩
       ·rw [if_neg c7] at H
        exact absurd H (by simp)
      ·rw [if_neg c6] at H
       exact absurd H (by simp)
     ·rw [if_neg c5] at H
      exact absurd H (by simp)
    ·rw [if_neg c4] at H
     have c4b0 : decide (x13_1 < (l0.length : Int)) = false := decide_eq_false c4
     clear c4
     obtain rfl := Option.some.inj H
     go_wp2
     repeat (go_quiet (fail); try go_wp2)
     go_ret
     exact ⟨by first | rfl | (simp; done) | (simp [*]; done), by repeat (first | exact Drawn0.refl _ | apply Drawn0.step)⟩
 ·rw [if_neg c3] at H
  have c3b0 : ((l0.length : Int) == (l1.length : Int)) = false := beq_eq_false_iff_ne.mpr c3
  have c3b1 : ((l0.length : Int) != (l1.length : Int)) = true := bne_iff_ne.mpr c3
  have c3b2 : (l0.length == l1.length) = false := by first | simpa using c3 | (simp at c3 ⊢; omega)
  obtain rfl := Option.some.inj H
  go_enter Try.func42, Try.ntmps42
  go_wp2
  repeat (go_quiet (fail); try go_wp2)
  go_ret
  exact ⟨by first | rfl | (simp; done) | (simp [*]; done), by repeat (first | exact Drawn0.refl _ | apply Drawn0.step)⟩

end Go.Proofs.Ytjlaogjikkckkaa.PFnMachines
