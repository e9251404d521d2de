-- WRITTEN by pp.py, this session's own wrapper around the print; not trusted: Lean checks it
import Derived.Test.YtfibjclnaeocbaaPFnChainx0
import Derived.Test.YtfibjclnaeocbaaPFnChainx2
import Derived.Test.YtfibjclnaeocbaaPFnChainx3
import Derived.Test.YtfibjclnaeocbaaPFnChainx6
namespace Go.Proofs.Ytfibjclnaeocbaa.PFnChain
open Go.RowKit Go.Proofs.Ytfibjclnaeocbaa.Hw Go.Proofs.YtfibjclnaeocbaaW.PrintWords Go.Proofs.YtfibjclnaeocbaaW.PrintLast Go.Proofs.YtfibjclnaeocbaaW.PrintMore
attribute [local go_sem] max2_int min2_int max_two min_two max_three min_three max_four min_four   -- for this text's walks alone
set_option linter.unusedVariables false
set_option linter.unusedSimpArgs false
set_option linter.unusedSectionVars false

/-! ### spec_DrawChainFollows: function 15 -/
def spec_DrawChainFollows.l0 : Nat → List (S27) → Int → List Int → Int → Int → Option ((List (S27)))
 | 0, _, _, _, _, _ => none
 | k + 1, x4, x5, x301000, x301001, x301002 => if x5 > 0 then (if 0 ≤ (wrap64 ((x4.length : Int) - 1)) then (if (wrap64 ((x4.length : Int) - 1)) < (x4.length : Int) then ((spec_l15Next.f k x301000 x301001 x301002 ((rd_T27 x4 (wrap64 ((x4.length : Int) - 1))).f0) ((rd_T27 x4 (wrap64 ((x4.length : Int) - 1))).f1) ((rd_T27 x4 (wrap64 ((x4.length : Int) - 1))).f2)).bind fun bt323 => (if x4.length < 2513169434916 then (spec_DrawChainFollows.l0 k (x4 ++ [(⟨bt323.1, bt323.2.1, bt323.2.2.1⟩ : S27)]) (wrap64 (x5 - 1)) x301000 bt323.2.2.2.1 bt323.2.2.2.2) else (none))) else (none)) else (none)) else (some x4)
def spec_DrawChainFollows.f (k : Nat) (l0 : List Int) : Option ((List (S27))) := (spec_l1New.f k l0).bind fun bt297 => ((some (([] : List (S27)) : List (S27))).bind fun y301 => ((spec_l1Once.f bt297.1 bt297.2.1 bt297.2.2 9).bind fun bt304 => (if bt304.1 = true then (some y301) else ((spec_l13Draw.f k bt297.1 bt304.2.1 bt304.2.2).bind fun bt307 => (if y301.length < 2513169434916 then ((spec_l1Below.f bt297.1 bt307.2.2.2.1 bt307.2.2.2.2 4).bind fun bt319 => (spec_DrawChainFollows.l0 k (y301 ++ [(⟨bt307.1, bt307.2.1, bt307.2.2.1⟩ : S27)]) bt319.1 bt297.1 bt319.2.1 bt319.2.2)) else (none))))))
theorem spec_DrawChainFollows.mono_l : ∀ k, (∀ y0 y1 y2 y3 y4, LeO (spec_DrawChainFollows.l0 k y0 y1 y2 y3 y4) (spec_DrawChainFollows.l0 (k + 1) y0 y1 y2 y3 y4))
 | 0 => fun _ _ _ _ _ r h => by simp [spec_DrawChainFollows.l0] at h
 | k + 1 => by
  have ih0 := spec_DrawChainFollows.mono_l k
  ·intro y0 y1 y2 y3 y4
   unfold spec_DrawChainFollows.l0
   repeat' first
   | (with_reducible exact ih0 _ _ _ _ _)
   | (with_reducible exact spec_l13Draw.mono _ _ _ _)
   | (with_reducible exact spec_l15Next.mono _ _ _ _ _ _ _)
   | (with_reducible exact spec_l1New.mono _ _)
   | (with_reducible exact LeO.refl _)
   | (with_reducible exact LeO.none _)
   | (with_reducible refine LeO.ite ?_ ?_)
   | (with_reducible refine LeO.bind ?_ (fun _ => ?_))
   | exact ih0 _ _ _ _ _
   | exact spec_l13Draw.mono _ _ _ _
   | exact spec_l15Next.mono _ _ _ _ _ _ _
   | exact spec_l1New.mono _ _
   | exact LeO.none _
   | refine LeO.ite ?_ ?_
   | refine LeO.bind ?_ (fun _ => ?_)
theorem spec_DrawChainFollows.mono : ∀ a0 k, LeO (spec_DrawChainFollows.f k a0) (spec_DrawChainFollows.f (k + 1) a0) := by
 intro a0 k
 have ih0 := spec_DrawChainFollows.mono_l k
 unfold spec_DrawChainFollows.f
 repeat' first
   | (with_reducible exact ih0 _ _ _ _ _)
   | (with_reducible exact spec_l13Draw.mono _ _ _ _)
   | (with_reducible exact spec_l15Next.mono _ _ _ _ _ _ _)
   | (with_reducible exact spec_l1New.mono _ _)
   | (with_reducible exact LeO.refl _)
   | (with_reducible exact LeO.none _)
   | (with_reducible refine LeO.ite ?_ ?_)
   | (with_reducible refine LeO.bind ?_ (fun _ => ?_))
   | exact ih0 _ _ _ _ _
   | exact spec_l13Draw.mono _ _ _ _
   | exact spec_l15Next.mono _ _ _ _ _ _ _
   | exact spec_l1New.mono _ _
   | exact LeO.none _
   | refine LeO.ite ?_ ?_
   | refine LeO.bind ?_ (fun _ => ?_)
theorem spec_DrawChainFollows.zI69 {P Q : Prop} (h : Aside0 P) (hw : P → Q := by intro h_; repeat (first | (with_reducible first | exact h_ | apply IsS69.alloc | apply IsS69.drew | apply IsS69.drewN | apply IsS69.set_1 | apply IsS69.set_2) | exact h_)) : Q := hw h.out
set_option maxHeartbeats 8000000 in
set_option maxRecDepth 100000 in
theorem spec_DrawChainFollows.calls (k : Nat) (A0 : Option Addr) (c0 : Nat) (l0 : List Int) (r : List (S27)) (w : World) (hr0 : Kd.C (Kd.int .u8) w A0 l0.length l0) (hc0 : l0.length ≤ c0) (h : spec_DrawChainFollows.f k l0 = some r) :
  Calls Try.prog 15 #[.slice A0 l0.length c0] w fun e w' => ∃ v0_ : Value, e = .returned (v0_) ∧ Kd.S k27 27 w' w.heap.size (fun _ => True) v0_ r ∧ Below w.heap.size w w' := by
 have hu27 := Try.underlying27
 have HR0 := Aside0.mk hr0
 have HC0 := Aside0.mk hc0
 clear hr0 hc0
 have HB := Aside0.mk (Below.refl w.heap.size w)
 have H : ((spec_l1New.f k l0).bind fun bt297 => ((some (([] : List (S27)) : List (S27))).bind fun y301 => ((spec_l1Once.f bt297.1 bt297.2.1 bt297.2.2 9).bind fun bt304 => (if bt304.1 = true then (some y301) else ((spec_l13Draw.f k bt297.1 bt304.2.1 bt304.2.2).bind fun bt307 => (if y301.length < 2513169434916 then ((spec_l1Below.f bt297.1 bt307.2.2.2.1 bt307.2.2.2.2 4).bind fun bt319 => (spec_DrawChainFollows.l0 k (y301 ++ [(⟨bt307.1, bt307.2.1, bt307.2.2.1⟩ : S27)]) bt319.1 bt297.1 bt319.2.1 bt319.2.2)) else (none))))))) = some r := h
 clear h
 replace H := Option.bind_eq_some_iff.mp H
 obtain ⟨⟨t297, t298, t299⟩, A20, H⟩ := H
 dsimp only at H
 have A2 := Aside0.mk A20
 clear A20
 obtain ⟨y301, hy301⟩ : ∃ y_ : List (S27), y_ = (([] : List (S27))) := ⟨_, rfl⟩
 replace H : ((spec_l1Once.f t297 t298 t299 9).bind fun bt304 => (if bt304.1 = true then (some y301) else ((spec_l13Draw.f k t297 bt304.2.1 bt304.2.2).bind fun bt307 => (if y301.length < 2513169434916 then ((spec_l1Below.f t297 bt307.2.2.2.1 bt307.2.2.2.2 4).bind fun bt319 => (spec_DrawChainFollows.l0 k (y301 ++ [(⟨bt307.1, bt307.2.1, bt307.2.2.1⟩ : S27)]) bt319.1 t297 bt319.2.1 bt319.2.2)) else (none))))) = some r := by first | (rw [hy301]; with_reducible exact H) | (rw [hy301]; exact H) | exact H
 have Ny301 := Aside0.mk hy301
 clear hy301
 replace H := Option.bind_eq_some_iff.mp H
 obtain ⟨⟨t304, t305, t306⟩, A30, H⟩ := H
 dsimp only at H
 have A3 := Aside0.mk A30
 clear A30
 by_cases c4 : t304 = true
 ·subst c4
  have H1 : (some y301) = some r := by rw [if_pos rfl] at H; exact H
  clear H
  have H := H1
  clear H1
  obtain rfl := Option.some.inj H
  go_enter Try.func15, Try.ntmps15
  go_wp2_with (first | ((with_reducible refine gate_callee (f := 30) rfl ?_); refine goesL_ (some 7) rfl rfl Try.func30 (by kernel_rfl) rfl #[.slice A0 l0.length c0] rfl zG ?_; (with_reducible refine (spec_l1New.calls k _ _ l0 t297 t298 t299 w _ ?side1 ?side2 ?side3 A2.out).mono ?_); (case side1 => exact zB HB); (case side2 => exact HR0.out); (case side3 => exact HC0.out); rintro e w5 ⟨g300, rfl, hi, hb, hb2⟩; refine ⟨_, rfl, ?_⟩; replace HB := Aside0.mk (hb); have HI300 := Aside0.mk (hi); (try clear hb)) | ((with_reducible refine gate_dst (N := 8) rfl ?_); refine Kd.S_lit k27 _ 27 ?hg (N := 8) ?hd (xs := ([] : List (S27))) (inner := []) (ok := fun _ => True) (okp := fun _ => True) ?hr ?hp (fun _ hk => hk) trivial (Below.refl _ _) (Nat.le_refl _) (by simp) ?_; (case hd => rfl); (case hg => rfl); (case hr => first | (go_simp; done) | (go_simp; rfl)); (case hp => exact (Reps.none _ _)); intro v302 w6 ho7 hb hg_ hnew_; clear hg_ hnew_; (first | rw [← Ny301.out] at ho7 | (simp only [Int.reduceToNat] at ho7; rw [← Ny301.out] at ho7)); have HO303 := Aside0.mk (Kd.S_lower ho7 (below_size (zB HB))); replace HB := bS HB hb; replace HI300 := Aside0.mk (IsS69.below (spec_DrawChainFollows.zI69 HI300) hb); clear hb ho7) | ((with_reducible refine gate_callee (f := 31) rfl ?_); refine goesL_ (some 10) rfl rfl Try.func31 (by kernel_rfl) rfl #[.pointer (some ⟨g300, 0, none⟩), .int .i64 9] rfl zG ?_; (with_reducible refine (spec_l1Once.calls g300 t297 t298 t299 9 true t305 t306 w _ ?side1 ?side2 A3.out).mono ?_); (case side1 => exact spec_DrawChainFollows.zI69 HI300); (case side2 => exact zB HB); rintro e w8 ⟨rfl, hi, hb, hk⟩; refine ⟨_, rfl, ?_⟩; replace HO303 := Aside0.mk (Kd.S_mono (Kd.S_keep (IsS69.apartS (show IsS69 w _ g300 t297 t298 t299 from spec_DrawChainFollows.zI69 HI300) (zS HO303) (by decide)) hk (fun _ h => h.2)) (fun _ h => h.1)); replace HB := Aside0.mk (hb); replace HI300 := Aside0.mk (hi); (try clear hb)))
  go_ret
  exact ⟨_, zE, by (with_reducible repeat (first | apply Kd.S_alloc | apply Kd.S_drewN | apply Kd.S_drew)); exact HO303.out, zB HB⟩
 ·replace c4 := Bool.eq_false_iff.mpr c4
  subst c4
  have H1 : ((spec_l13Draw.f k t297 t305 t306).bind fun bt307 => (if y301.length < 2513169434916 then ((spec_l1Below.f t297 bt307.2.2.2.1 bt307.2.2.2.2 4).bind fun bt319 => (spec_DrawChainFollows.l0 k (y301 ++ [(⟨bt307.1, bt307.2.1, bt307.2.2.1⟩ : S27)]) bt319.1 t297 bt319.2.1 bt319.2.2)) else (none))) = some r := by rw [if_neg (show ¬ (false = true) by decide)] at H; exact H
  clear H
  have H := H1
  clear H1
  replace H := Option.bind_eq_some_iff.mp H
  obtain ⟨⟨t307, t308, t311, t314, t315⟩, A90, H⟩ := H
  dsimp only at H
  have A9 := Aside0.mk A90
  clear A90
  by_cases c10 : y301.length < 2513169434916
  ·rw [if_pos c10] at H
   have LMc10 := Aside0.mk c10
   clear c10
   obtain ⟨y316, hy316⟩ : ∃ y_ : List (S27), y_ = (y301 ++ [(⟨t307, t308, t311⟩ : S27)]) := ⟨_, rfl⟩
   replace H : ((spec_l1Below.f t297 t314 t315 4).bind fun bt319 => (spec_DrawChainFollows.l0 k y316 bt319.1 t297 bt319.2.1 bt319.2.2)) = some r := by first | (rw [hy316]; with_reducible exact H) | (rw [hy316]; exact H) | exact H
   have Ny316 := Aside0.mk hy316
   clear hy316
   replace H := Option.bind_eq_some_iff.mp H
   obtain ⟨⟨t319, t320, t321⟩, A110, H⟩ := H
   dsimp only at H
   have A11 := Aside0.mk A110
   clear A110
   have H' := Aside0.mk H
   clear H
   go_enter Try.func15, Try.ntmps15
   go_wp2_with (first | ((with_reducible refine gate_callee (f := 30) rfl ?_); refine goesL_ (some 7) rfl rfl Try.func30 (by kernel_rfl) rfl #[.slice A0 l0.length c0] rfl zG ?_; (with_reducible refine (spec_l1New.calls k _ _ l0 t297 t298 t299 w _ ?side1 ?side2 ?side3 A2.out).mono ?_); (case side1 => exact zB HB); (case side2 => exact HR0.out); (case side3 => exact HC0.out); rintro e w12 ⟨g300, rfl, hi, hb, hb2⟩; refine ⟨_, rfl, ?_⟩; replace HB := Aside0.mk (hb); have HI300 := Aside0.mk (hi); (try clear hb)) | ((with_reducible refine gate_dst (N := 8) rfl ?_); refine Kd.S_lit k27 _ 27 ?hg (N := 8) ?hd (xs := ([] : List (S27))) (inner := []) (ok := fun _ => True) (okp := fun _ => True) ?hr ?hp (fun _ hk => hk) trivial (Below.refl _ _) (Nat.le_refl _) (by simp) ?_; (case hd => rfl); (case hg => rfl); (case hr => first | (go_simp; done) | (go_simp; rfl)); (case hp => exact (Reps.none _ _)); intro v302 w13 ho14 hb hg_ hnew_; clear hg_ hnew_; (first | rw [← Ny301.out] at ho14 | (simp only [Int.reduceToNat] at ho14; rw [← Ny301.out] at ho14)); have HO303 := Aside0.mk (Kd.S_lower ho14 (below_size (zB HB))); replace HB := bS HB hb; replace HI300 := Aside0.mk (IsS69.below (spec_DrawChainFollows.zI69 HI300) hb); clear hb ho14) | ((with_reducible refine gate_callee (f := 31) rfl ?_); refine goesL_ (some 10) rfl rfl Try.func31 (by kernel_rfl) rfl #[.pointer (some ⟨g300, 0, none⟩), .int .i64 9] rfl zG ?_; (with_reducible refine (spec_l1Once.calls g300 t297 t298 t299 9 false t305 t306 w _ ?side1 ?side2 A3.out).mono ?_); (case side1 => exact spec_DrawChainFollows.zI69 HI300); (case side2 => exact zB HB); rintro e w15 ⟨rfl, hi, hb, hk⟩; refine ⟨_, rfl, ?_⟩; replace HO303 := Aside0.mk (Kd.S_mono (Kd.S_keep (IsS69.apartS (show IsS69 w _ g300 t297 t298 t299 from spec_DrawChainFollows.zI69 HI300) (zS HO303) (by decide)) hk (fun _ h => h.2)) (fun _ h => h.1)); replace HB := Aside0.mk (hb); replace HI300 := Aside0.mk (hi); (try clear hb)) | ((with_reducible refine gate_callee (f := 32) rfl ?_); refine goesL_ (some 14) rfl rfl Try.func32 (by kernel_rfl) rfl #[.pointer (some ⟨g300, 0, none⟩)] rfl zG ?_; (with_reducible refine (spec_l13Draw.calls k g300 t297 t305 t306 t307 t308 t311 t314 t315 w _ ?side1 ?side2 A9.out).mono ?_); (case side1 => exact spec_DrawChainFollows.zI69 HI300); (case side2 => exact zB HB); rintro e w16 ⟨v309, v312, rfl, ho0, ho1, hi, hb, hk⟩; refine ⟨_, rfl, ?_⟩; replace HO303 := Aside0.mk (Kd.S_mono (Kd.S_told (Kd.S_told (Kd.S_oldK (IsS69.apartS (show IsS69 w _ g300 t297 t305 t306 from spec_DrawChainFollows.zI69 HI300) (zS HO303) (by decide)) hk) (Kd.R_base ho0)) (Kd.R_base ho1)) (fun _ h_ => h_.1)); have HO310 := Aside0.mk (Kd.R_lower ho0 (below_size (zB HB))); have HO313 := Aside0.mk (Kd.R_lower ho1 (below_size (zB HB))); replace HB := Aside0.mk (hb); replace HI300 := Aside0.mk (hi); (try clear hb); (try clear ho0); (try clear ho1); obtain ⟨Ao18, co18, eo18⟩ := Kd.R_slice HO310.out; subst eo18; obtain ⟨Ao19, co19, eo19⟩ := Kd.R_slice HO313.out; subst eo19) | ((with_reducible refine gate_builtin (b := .append) (xs := #[.tmp 12, .tmp 15]) rfl ?_); at_builtin; refine Kd.S_append k27 (w0 := w) w.heap.size rfl (.tmp 12) (.tmp 15) 39 27 (.agg #[(.int .i64 0), (.slice none 0 0), (.slice none 0 0)]) 56 rfl Try.underlying39 info27 rfl (by decide) (by omega) v302 y301 (⟨t307, t308, t311⟩ : S27) [.int .i64 t307, .slice Ao18 t308.length co18, .slice Ao19 t311.length co19] (fun _ => True) (fun k_ => some k_ = (.slice Ao18 t308.length co18 : Value).ownBlock ∨ some k_ = (.slice Ao19 t311.length co19 : Value).ownBlock) rfl rfl ?aP (fun k_ hk_ => hk_.elim (fun h_ => ((Kd.R_mono (ok' := fun k_ => ((fun _ => True)) k_ ∧ some k_ ≠ (v302 : Value).ownBlock) (Kd.R_apart' (HO310.out) (Kd.S_typed HO303.out) (by decide)) (fun k_ hk => ⟨trivial, hk.2⟩))).1 k_ h_.symm) (fun h_ => ((Kd.R_mono (ok' := fun k_ => ((fun _ => True)) k_ ∧ some k_ ≠ (v302 : Value).ownBlock) (Kd.R_apart' (HO313.out) (Kd.S_typed HO303.out) (by decide)) (fun k_ hk => ⟨trivial, hk.2⟩))).1 k_ h_.symm)) ?aF ?aO ?aB ?aS ?aL ?_; (case aP => exact k27_mkM _ _ _ (⟨t307, t308, t311⟩ : S27) (Kd.R_mono (Kd.R_tight rfl (Kd.R_mono (ok' := fun k_ => ((fun _ => True)) k_ ∧ some k_ ≠ (v302 : Value).ownBlock) (Kd.R_apart' (HO310.out) (Kd.S_typed HO303.out) (by decide)) (fun k_ hk => ⟨trivial, hk.2⟩))) (fun _ h_ => Or.inl h_)) (Kd.R_mono (Kd.R_tight rfl (Kd.R_mono (ok' := fun k_ => ((fun _ => True)) k_ ∧ some k_ ≠ (v302 : Value).ownBlock) (Kd.R_apart' (HO313.out) (Kd.S_typed HO303.out) (by decide)) (fun k_ hk => ⟨trivial, hk.2⟩))) (fun _ h_ => Or.inr (h_)))); (case aB => exact (zB HB)); (case aF => exact (fun _ _ => trivial)); (case aO => exact (by (with_reducible repeat (first | apply Kd.S_alloc | apply Kd.S_drewN | apply Kd.S_drew)); exact Kd.S_mono HO303.out (fun k_ hk => ⟨trivial, fun e_ => e_.elim (fun h_ => hk.1.2 h_) (fun h_ => hk.2 h_)⟩))); (case aS => exact (below_size (zB HB))); (case aL => have := LMc10.out; omega); intro v317 w17 ho hb hg hat; rw [← Ny316.out] at ho; replace HI300 := Aside0.mk (IsS69.grown (spec_DrawChainFollows.zI69 HI300) hg (IsS69.own_neS HI300.out HO303.out (by decide))); replace HB := Aside0.mk (hb); have HO318 := Aside0.mk (ho); clear HO303 HO310 HO313; clear ho hb hg hat) | ((with_reducible refine gate_callee (f := 33) rfl ?_); refine goesL_ (some 18) rfl rfl Try.func33 (by kernel_rfl) rfl #[.pointer (some ⟨g300, 0, none⟩), .int .i64 4] rfl zG ?_; (with_reducible refine (spec_l1Below.calls g300 t297 t314 t315 4 t319 t320 t321 w _ ?side1 ?side2 A11.out).mono ?_); (case side1 => exact spec_DrawChainFollows.zI69 HI300); (case side2 => exact zB HB); rintro e w20 ⟨rfl, hi, hb, hk⟩; refine ⟨_, rfl, ?_⟩; replace HO318 := Aside0.mk (Kd.S_mono (Kd.S_keep (IsS69.apartS (show IsS69 w _ g300 t297 t314 t315 from spec_DrawChainFollows.zI69 HI300) (zS HO318) (by decide)) hk (fun _ h => h.2)) (fun _ h => h.1)); replace HB := Aside0.mk (hb); replace HI300 := Aside0.mk (hi); (try clear hb)))
   go_loopg [4, 5] k (fun kq v4 v5 w' => ∃ (x4_1 : List (S27)) (x5_1 : Int) (x301001_1 : Int) (x301002_1 : Int), v5 = .int .i64 x5_1 ∧ Aside0 (spec_DrawChainFollows.l0 kq x4_1 x5_1 t297 x301001_1 x301002_1 = some r) ∧ Aside0 (kq ≤ k) ∧ Aside0 (Kd.S k27 27 w' w.heap.size (fun _ => True) v4 x4_1) ∧ Aside0 (IsS69 w w' g300 t297 x301001_1 x301002_1) ∧ Aside0 (Below w.heap.size w w'))
   case atStart => exact ⟨(y316), (t319), (t320), (t321), zF, H', ⟨Nat.le_refl _⟩, ⟨zS HO318⟩, ⟨spec_DrawChainFollows.zI69 HI300⟩, ⟨zB HB⟩⟩
   case round =>
    clear H'
    try clear c1
    try clear p2
    try clear c3
    try clear c4
    try clear c10
    try clear c15
    obtain ⟨x4_1, x5_1, x301001_1, x301002_1, rfl, HA, HK1, HO_4, HI300, HB⟩ := hrel
    cases gk with
    | zero => exact absurd HA.out (by simp [spec_DrawChainFollows.l0])
    | succ k1 =>
     have H := HA.out
     clear HA
     simp only [spec_DrawChainFollows.l0] at H
     by_cases c21 : x5_1 > 0
     ·rw [if_pos c21] at H
      have c21b0 : decide (0 < x5_1) = true := decide_eq_true c21
      clear c21
      obtain ⟨ji22, hji22⟩ : ∃ j_ : Int, (wrap64 ((x4_1.length : Int) - 1)) = j_ := ⟨_, rfl⟩
      replace H : (if 0 ≤ (ji22) then (if (ji22) < (x4_1.length : Int) then ((spec_l15Next.f k1 t297 x301001_1 x301002_1 ((rd_T27 x4_1 (ji22)).f0) ((rd_T27 x4_1 (ji22)).f1) ((rd_T27 x4_1 (ji22)).f2)).bind fun bt323 => (if x4_1.length < 2513169434916 then (spec_DrawChainFollows.l0 k1 (x4_1 ++ [(⟨bt323.1, bt323.2.1, bt323.2.2.1⟩ : S27)]) (wrap64 (x5_1 - 1)) t297 bt323.2.2.2.1 bt323.2.2.2.2) else (none))) else (none)) else (none)) = some r := by first | (rw [hji22] at H; exact H) | (simp only [hji22] at H ⊢; exact H)
      have hji22w : (IntKind.i64.wrap ((x4_1.length : Int) - 1)) = ji22 := (i64_w _).trans hji22
      obtain ⟨c23, H⟩ := ifS H
      have c23b0 : decide (0 ≤ (ji22)) = true := decide_eq_true c23
      clear c23
      obtain ⟨c24, H⟩ := ifS H
      have c24b0 : decide ((ji22) < (x4_1.length : Int)) = true := decide_eq_true c24
      clear c24
      replace H := Option.bind_eq_some_iff.mp H
      obtain ⟨⟨t323, t324, t327, t330, t331⟩, A250, H⟩ := H
      dsimp only at H
      have A25 := Aside0.mk A250
      clear A250
      obtain ⟨c26, H⟩ := ifS H
      have LMc26 := Aside0.mk c26
      clear c26
      obtain ⟨y332, hy332⟩ : ∃ y_ : List (S27), y_ = (x4_1 ++ [(⟨t323, t324, t327⟩ : S27)]) := ⟨_, rfl⟩
      replace H : (spec_DrawChainFollows.l0 k1 y332 (wrap64 (x5_1 - 1)) t297 t330 t331) = some r := by first | (rw [hy332]; with_reducible exact H) | (rw [hy332]; exact H) | exact H
      have Ny332 := Aside0.mk hy332
      clear hy332
      have H' := Aside0.mk H
      clear H
      obtain ⟨Ao27, co27, eo27⟩ := Kd.S_slice HO_4.out
      subst eo27
      have p322 : 0 ≤ ((ji22) : Int) := zD
      have q322 : (ji22) < (x4_1.length : Int) := zD
      obtain ⟨ad322, A322_1, c322_1, A322_2, c322_2, e322, hx322_0, hx322_1, hx322_2, hl322_1, hi322_1, hl322_2, hi322_2⟩ := at_T27 (Kd.S_reads' HO_4.out).2.2 (ji22) p322 q322
      cases e322
      obtain ⟨ce322, hce322, hMe322, hcc322⟩ := Kd.S_get HO_4.out z27 (ji22) p322 (by first | exact q322 | exact zD | (have e_ := (Kd.S_reads' HO_4.out).1; omega))
      obtain ⟨ve322_1, ve322_2, rfl, ge322_1, ge322_2⟩ := k27_openM hMe322
      have hv322_1 := hcc322 1 _ rfl
      rw [add_field _ _ 1 (by omega)] at hv322_1
      replace hv322_1 := Option.some.inj (hv322_1.symm.trans hx322_1)
      rw [hv322_1] at ge322_1
      have HL322_1 := Aside0.mk (show Kd.R Kd.bool 4 _ _ _ _ ((rd_T27 x4_1 (ji22)).f1) from ge322_1)
      clear hv322_1 ge322_1
      have hv322_2 := hcc322 2 _ rfl
      rw [add_field _ _ 2 (by omega)] at hv322_2
      replace hv322_2 := Option.some.inj (hv322_2.symm.trans hx322_2)
      rw [hv322_2] at ge322_2
      have HL322_2 := Aside0.mk (show Kd.R k46 46 _ _ _ _ ((rd_T27 x4_1 (ji22)).f2) from ge322_2)
      clear hv322_2 ge322_2
      clear hcc322 hce322
      have HR322_1 := Aside0.mk hi322_1
      have HC322_1 := Aside0.mk hl322_1
      clear hi322_1 hl322_1
      have HR322_2 := Aside0.mk hi322_2
      have HC322_2 := Aside0.mk hl322_2
      clear hi322_2 hl322_2
      replace p322 := eq_true p322
      replace q322 := eq_true q322
      go_wp2_with (first | ((with_reducible refine gate_callee (f := 34) rfl ?_); refine goesL_ (some 31) rfl rfl Try.func34 (by kernel_rfl) rfl #[.pointer (some ⟨g300, 0, none⟩), .agg #[.int .i64 ((rd_T27 x4_1 (ji22)).f0), .slice A322_1 ((rd_T27 x4_1 (ji22)).f1).length c322_1, .slice A322_2 ((rd_T27 x4_1 (ji22)).f2).length c322_2]] rfl (by (try simp only [List.map_toArray, List.map_cons, List.map_nil]); first | done | (simp only [hji22]; rfl) | rfl | (simp only [List.length_drop, List.length_take]; rfl)) ?_; (with_reducible refine (spec_l15Next.calls k1 g300 t297 x301001_1 x301002_1 ((rd_T27 x4_1 (ji22)).f0) _ _ ((rd_T27 x4_1 (ji22)).f1) _ _ ((rd_T27 x4_1 (ji22)).f2) t323 t324 t327 t330 t331 w _ ?side1 ?side2 ?side3 ?side4 ?side5 ?side6 ?side7 A25.out).mono ?_); (case side1 => exact spec_DrawChainFollows.zI69 HI300); (case side2 => exact zB HB); (case side3 => repeat (first | exact (by repeat (first | (with_reducible exact HR322_1.out) | (with_reducible refine Kd.C_alloc ?_ _) | (with_reducible refine Kd.C_drewN ?_ _) | (with_reducible refine Kd.C_drew ?_) | exact HR322_1.out)) | (with_reducible refine Kd.C_alloc ?_ _) | (with_reducible refine Kd.C_drewN ?_ _) | (with_reducible refine Kd.C_drew ?_))); (case side4 => exact HC322_1.out); (case side5 => exact far_slice (IsS69.own_ne HI300.out HL322_1.out (by decide))); (case side6 => exact Kd.C_foot_own (IsS69.apart (show IsS69 w _ g300 t297 x301001_1 x301002_1 from spec_DrawChainFollows.zI69 HI300) (zR HL322_2) (by decide)) (fun _ h_ => h_.2)); (case side7 => exact HC322_2.out); rintro e w28 ⟨v325, v328, rfl, ho0, ho1, hi, hb, hk⟩; refine ⟨_, rfl, ?_⟩; replace HO_4 := Aside0.mk (Kd.S_mono (Kd.S_told (Kd.S_told (Kd.S_oldK (IsS69.apartS (show IsS69 w _ g300 t297 x301001_1 x301002_1 from spec_DrawChainFollows.zI69 HI300) (zS HO_4) (by decide)) hk) (Kd.R_base ho0)) (Kd.R_base ho1)) (fun _ h_ => h_.1)); have HO326 := Aside0.mk (Kd.R_lower (Kd.R_new' ho0 (Kd.R_lt (zR HL322_1))) (below_size (zB HB))); replace HL322_1 := Aside0.mk (Kd.R_mono (Kd.R_told (Kd.R_oldK (IsS69.apart (show IsS69 w _ g300 t297 x301001_1 x301002_1 from spec_DrawChainFollows.zI69 HI300) (zR HL322_1) (by decide)) hk) (Kd.R_base ho0)) (fun _ h_ => h_.1)); have HO329 := Aside0.mk (Kd.R_lower (Kd.R_new' ho1 (Kd.R_lt (zR HL322_2))) (below_size (zB HB))); replace HL322_2 := Aside0.mk (Kd.R_mono (Kd.R_told (Kd.R_oldK (IsS69.apart (show IsS69 w _ g300 t297 x301001_1 x301002_1 from spec_DrawChainFollows.zI69 HI300) (zR HL322_2) (by decide)) hk) (Kd.R_base ho1)) (fun _ h_ => h_.1)); replace HB := Aside0.mk (hb); replace HI300 := Aside0.mk (hi); (try clear hb); (try clear ho0); (try clear ho1); obtain ⟨Ao30, co30, eo30⟩ := Kd.R_slice HO326.out; subst eo30; obtain ⟨Ao31, co31, eo31⟩ := Kd.R_slice HO329.out; subst eo31) | ((with_reducible refine gate_builtin (b := .append) (xs := #[.tmp 23, .tmp 32]) rfl ?_); at_builtin; refine Kd.S_append k27 (w0 := w) w.heap.size rfl (.tmp 23) (.tmp 32) 39 27 (.agg #[(.int .i64 0), (.slice none 0 0), (.slice none 0 0)]) 56 rfl Try.underlying39 info27 rfl (by decide) (by omega) (.slice (some ad322) x4_1.length co27) x4_1 (⟨t323, t324, t327⟩ : S27) [.int .i64 t323, .slice Ao30 t324.length co30, .slice Ao31 t327.length co31] (fun _ => True) (fun k_ => some k_ = (.slice Ao30 t324.length co30 : Value).ownBlock ∨ some k_ = (.slice Ao31 t327.length co31 : Value).ownBlock) rfl rfl ?aP (fun k_ hk_ => hk_.elim (fun h_ => ((Kd.R_mono (ok' := fun k_ => ((fun _ => True)) k_ ∧ some k_ ≠ (.slice (some ad322) x4_1.length co27 : Value).ownBlock) (Kd.R_apart' (HO326.out) (Kd.S_typed HO_4.out) (by decide)) (fun k_ hk => ⟨trivial, hk.2⟩))).1 k_ h_.symm) (fun h_ => ((Kd.R_mono (ok' := fun k_ => ((fun _ => True)) k_ ∧ some k_ ≠ (.slice (some ad322) x4_1.length co27 : Value).ownBlock) (Kd.R_apart' (HO329.out) (Kd.S_typed HO_4.out) (by decide)) (fun k_ hk => ⟨trivial, hk.2⟩))).1 k_ h_.symm)) ?aF ?aO ?aB ?aS ?aL ?_; (case aP => exact k27_mkM _ _ _ (⟨t323, t324, t327⟩ : S27) (Kd.R_mono (Kd.R_tight rfl (Kd.R_mono (ok' := fun k_ => ((fun _ => True)) k_ ∧ some k_ ≠ (.slice (some ad322) x4_1.length co27 : Value).ownBlock) (Kd.R_apart' (HO326.out) (Kd.S_typed HO_4.out) (by decide)) (fun k_ hk => ⟨trivial, hk.2⟩))) (fun _ h_ => Or.inl h_)) (Kd.R_mono (Kd.R_tight rfl (Kd.R_mono (ok' := fun k_ => ((fun _ => True)) k_ ∧ some k_ ≠ (.slice (some ad322) x4_1.length co27 : Value).ownBlock) (Kd.R_apart' (HO329.out) (Kd.S_typed HO_4.out) (by decide)) (fun k_ hk => ⟨trivial, hk.2⟩))) (fun _ h_ => Or.inr (h_)))); (case aB => exact (zB HB)); (case aF => exact (fun _ _ => trivial)); (case aO => exact (by (with_reducible repeat (first | apply Kd.S_alloc | apply Kd.S_drewN | apply Kd.S_drew)); exact Kd.S_mono HO_4.out (fun k_ hk => ⟨trivial, fun e_ => e_.elim (fun h_ => hk.1.2 h_) (fun h_ => hk.2 h_)⟩))); (case aS => exact (below_size (zB HB))); (case aL => have := LMc26.out; omega); intro v333 w29 ho hb hg hat; rw [← Ny332.out] at ho; replace HI300 := Aside0.mk (IsS69.grown (spec_DrawChainFollows.zI69 HI300) hg (IsS69.own_neS HI300.out HO_4.out (by decide))); replace HL322_1 := Aside0.mk (Kd.R_after (ok := (fun k_ => some k_ ≠ (.slice Ao30 t324.length co30 : Value).ownBlock)) (by (with_reducible repeat (first | apply Kd.R_alloc | apply Kd.R_drewN | apply Kd.R_drew)); exact Kd.R_mono HL322_1.out (fun _ hk => ⟨hk.2, hk.1.2⟩)) hg hat); replace HL322_2 := Aside0.mk (Kd.R_after (ok := (fun k_ => some k_ ≠ (.slice Ao31 t327.length co31 : Value).ownBlock)) (by (with_reducible repeat (first | apply Kd.R_alloc | apply Kd.R_drewN | apply Kd.R_drew)); exact Kd.R_mono HL322_2.out (fun _ hk => ⟨hk.2, hk.1.2⟩)) hg hat); replace HB := Aside0.mk (hb); have HO334 := Aside0.mk (ho); clear HO_4 HO326 HO329; clear ho hb hg hat))
      go_roundg k1
      case measure => have := HK1.out; omega
      case rel => exact ⟨(y332), (wrap64 (x5_1 - 1)), (t330), (t331), zF, H', ⟨by have := HK1.out; omega⟩, ⟨zS HO334⟩, ⟨spec_DrawChainFollows.zI69 HI300⟩, ⟨zB HB⟩⟩
     ·rw [if_neg c21] at H
      have c21b0 : decide (0 < x5_1) = false := decide_eq_false c21
      clear c21
      obtain rfl := Option.some.inj H
      go_wp2
      go_ret
      exact ⟨_, zE, by (with_reducible repeat (first | apply Kd.S_alloc | apply Kd.S_drewN | apply Kd.S_drew)); exact HO_4.out, zB HB⟩
  ·rw [if_neg c10] at H
   exact absurd H (by simp)

-- NOT PRINTED: function 56 (slices_IndexFunc_int_int)

-- NOT PRINTED: function 39 (slices_ContainsFunc_int_int)

/-! ### slices_Equal_int_int: function 41 -/
def slices_Equal_int_int.l0 : Nat → List Int → List Int → Int → Int → Option (Bool)
 | 0, _, _, _, _ => none
 | k + 1, x0, x1, x12, x13 => if x13 < x12 then (if 0 ≤ x13 then (if x13 < (x0.length : Int) then (if x13 < (x1.length : Int) then (if (rd x0 x13) = (rd x1 x13) then (slices_Equal_int_int.l0 k x0 x1 x12 (wrap64 (x13 + 1))) else (some false)) else (none)) else (none)) else (none)) else (some true)
def slices_Equal_int_int.f (k : Nat) (l0 : List Int) (l1 : List Int) : Option (Bool) := if (l0.length : Int) = (l1.length : Int) then (slices_Equal_int_int.l0 k l0 l1 (l0.length : Int) 0) else (some false)
theorem slices_Equal_int_int.mono_l : ∀ k, (∀ y0 y1 y2 y3, LeO (slices_Equal_int_int.l0 k y0 y1 y2 y3) (slices_Equal_int_int.l0 (k + 1) y0 y1 y2 y3))
 | 0 => fun _ _ _ _ r h => by simp [slices_Equal_int_int.l0] at h
 | k + 1 => by
  have ih0 := slices_Equal_int_int.mono_l k
  ·intro y0 y1 y2 y3
   unfold slices_Equal_int_int.l0
   repeat' first
   | (with_reducible exact ih0 _ _ _ _)
   | (with_reducible exact LeO.refl _)
   | (with_reducible exact LeO.none _)
   | (with_reducible refine LeO.ite ?_ ?_)
   | (with_reducible refine LeO.bind ?_ (fun _ => ?_))
   | exact ih0 _ _ _ _
   | exact LeO.none _
   | refine LeO.ite ?_ ?_
   | refine LeO.bind ?_ (fun _ => ?_)
theorem slices_Equal_int_int.mono : ∀ a0 a1 k, LeO (slices_Equal_int_int.f k a0 a1) (slices_Equal_int_int.f (k + 1) a0 a1) := by
 intro a0 a1 k
 have ih0 := slices_Equal_int_int.mono_l k
 unfold slices_Equal_int_int.f
 repeat' first
   | (with_reducible exact ih0 _ _ _ _)
   | (with_reducible exact LeO.refl _)
   | (with_reducible exact LeO.none _)
   | (with_reducible refine LeO.ite ?_ ?_)
   | (with_reducible refine LeO.bind ?_ (fun _ => ?_))
   | exact ih0 _ _ _ _
   | exact LeO.none _
   | refine LeO.ite ?_ ?_
   | refine LeO.bind ?_ (fun _ => ?_)
set_option maxHeartbeats 8000000 in
set_option maxRecDepth 100000 in
theorem slices_Equal_int_int.calls (k : Nat) (A0 : Option Addr) (c0 : Nat) (l0 : List Int) (A1 : Option Addr) (c1 : Nat) (l1 : List Int) (r : Bool) (w : World) (hr0 : Kd.C (Kd.int .i64) w A0 l0.length l0) (hc0 : l0.length ≤ c0) (hr1 : Kd.C (Kd.int .i64) w A1 l1.length l1) (hc1 : l1.length ≤ c1) (h : slices_Equal_int_int.f k l0 l1 = some r) :
  Calls Try.prog 41 #[.slice A0 l0.length c0, .slice A1 l1.length c1] w fun e w' => e = .returned (.bool r) ∧ Drawn0 w w' := by
 have HR0 := Aside0.mk hr0
 have HC0 := Aside0.mk hc0
 clear hr0 hc0
 have HR1 := Aside0.mk hr1
 have HC1 := Aside0.mk hc1
 clear hr1 hc1
 have H : (if (l0.length : Int) = (l1.length : Int) then (slices_Equal_int_int.l0 k l0 l1 (l0.length : Int) 0) else (some false)) = some r := h
 clear h
 by_cases c3 : (l0.length : Int) = (l1.length : Int)
 ·rw [if_pos c3] at H
  have c3b0 : ((l0.length : Int) == (l1.length : Int)) = true := beq_iff_eq.mpr c3
  have c3b1 : ((l0.length : Int) != (l1.length : Int)) = false := bne_eq_false_iff_eq.mpr c3
  have c3b2 : (l0.length == l1.length) = true := by first | simpa using c3 | (simp at c3 ⊢; omega)
  clear c3
  have H' := Aside0.mk H
  clear H
  go_enter Try.func41, Try.ntmps41
  go_wp2
  repeat (go_quiet (fail); try go_wp2)
  go_loopg [13] k (fun kq v13 w' => ∃ (x13_1 : Int), v13 = .int .i64 x13_1 ∧ Aside0 (slices_Equal_int_int.l0 kq l0 l1 (l0.length : Int) x13_1 = some r) ∧ Aside0 (kq ≤ k) ∧ Drawn0 w w')
  case atStart => exact ⟨(0), zF, H', ⟨Nat.le_refl _⟩, by repeat (first | exact Drawn0.refl _ | apply Drawn0.step)⟩
  case round =>
   clear H'
   try clear c1
   try clear p2
   try clear c3
   try clear c3b0
   try clear c3b1
   try clear c3b2
   obtain ⟨x13_1, rfl, HA, HK1, ⟨m1, rfl⟩⟩ := hrel
   cases gk with
   | zero => exact absurd HA.out (by simp [slices_Equal_int_int.l0])
   | succ k1 =>
    have H := HA.out
    clear HA
    simp only [slices_Equal_int_int.l0] at H
    by_cases c4 : x13_1 < (l0.length : Int)
    ·rw [if_pos c4] at H
     have c4b0 : decide (x13_1 < (l0.length : Int)) = true := decide_eq_true c4
     clear c4
     obtain ⟨c5, H⟩ := ifS H
     have c5b0 : decide (0 ≤ x13_1) = true := decide_eq_true c5
     clear c5
     obtain ⟨c6, H⟩ := ifS H
     have c6b0 : decide (x13_1 < (l0.length : Int)) = true := decide_eq_true c6
     clear c6
     obtain ⟨c7, H⟩ := ifS H
     have c7b0 : decide (x13_1 < (l1.length : Int)) = true := decide_eq_true c7
     clear c7
     by_cases c8 : (rd l0 x13_1) = (rd l1 x13_1)
     ·rw [if_pos c8] at H
      have c8b0 : ((rd l0 x13_1) == (rd l1 x13_1)) = true := beq_iff_eq.mpr c8
      have c8b1 : ((rd l0 x13_1) != (rd l1 x13_1)) = false := bne_eq_false_iff_eq.mpr c8
      clear c8
      have H' := Aside0.mk H
      clear H
      have p335 : 0 ≤ (x13_1 : Int) := zD
      have q335 : x13_1 < (l0.length : Int) := zD
      obtain ⟨ad335, e335, hx335_0⟩ := Kd.at_int HR0.out x13_1 p335 q335
      cases e335
      replace p335 := eq_true p335
      replace q335 := eq_true q335
      have p336 : 0 ≤ (x13_1 : Int) := zD
      have q336 : x13_1 < (l1.length : Int) := zD
      obtain ⟨ad336, e336, hx336_0⟩ := Kd.at_int HR1.out x13_1 p336 q336
      cases e336
      replace p336 := eq_true p336
      replace q336 := eq_true q336
      go_wp2
      repeat (go_quiet (fail); try go_wp2)
      go_roundg k1
      case measure => have := HK1.out; omega
      case rel => exact ⟨(wrap64 (x13_1 + 1)), zF, H', ⟨by have := HK1.out; omega⟩, by repeat (first | exact Drawn0.refl _ | apply Drawn0.step)⟩
     ·rw [if_neg c8] at H
      have c8b0 : ((rd l0 x13_1) == (rd l1 x13_1)) = false := beq_eq_false_iff_ne.mpr c8
      have c8b1 : ((rd l0 x13_1) != (rd l1 x13_1)) = true := bne_iff_ne.mpr c8
      obtain rfl := Option.some.inj H
      have p335 : 0 ≤ (x13_1 : Int) := zD
      have q335 : x13_1 < (l0.length : Int) := zD
      obtain ⟨ad335, e335, hx335_0⟩ := Kd.at_int HR0.out x13_1 p335 q335
      cases e335
      replace p335 := eq_true p335
      replace q335 := eq_true q335
      have p336 : 0 ≤ (x13_1 : Int) := zD
      have q336 : x13_1 < (l1.length : Int) := zD
      obtain ⟨ad336, e336, hx336_0⟩ := Kd.at_int HR1.out x13_1 p336 q336
      cases e336
      replace p336 := eq_true p336
      replace q336 := eq_true q336
      go_wp2
      repeat (go_quiet (fail); try go_wp2)
      go_ret
      exact ⟨by first | rfl | (simp; done) | (simp [*]; done), by repeat (first | exact Drawn0.refl _ | apply Drawn0.step)⟩
    ·rw [if_neg c4] at H
     have c4b0 : decide (x13_1 < (l0.length : Int)) = false := decide_eq_false c4
     clear c4
     obtain rfl := Option.some.inj H
     go_wp2
     repeat (go_quiet (fail); try go_wp2)
     go_ret
     exact ⟨by first | rfl | (simp; done) | (simp [*]; done), by repeat (first | exact Drawn0.refl _ | apply Drawn0.step)⟩
 ·rw [if_neg c3] at H
  have c3b0 : ((l0.length : Int) == (l1.length : Int)) = false := beq_eq_false_iff_ne.mpr c3
  have c3b1 : ((l0.length : Int) != (l1.length : Int)) = true := bne_iff_ne.mpr c3
  have c3b2 : (l0.length == l1.length) = false := by first | simpa using c3 | (simp at c3 ⊢; omega)
  obtain rfl := Option.some.inj H
  go_enter Try.func41, Try.ntmps41
  go_wp2
  repeat (go_quiet (fail); try go_wp2)
  go_ret
  exact ⟨by first | rfl | (simp; done) | (simp [*]; done), by repeat (first | exact Drawn0.refl _ | apply Drawn0.step)⟩

theorem impl_reached_any.eq0 (a b : List Int) (hl : a.length ≤ 9223372036854775807) (he : b.length = a.length) : ∀ (d k i : Nat), i + d = a.length → d < k → slices_Equal_int_int.l0 k a b (a.length : Int) (i : Int) = some (decide (a.drop i = b.drop i)) := by
 intro d
 induction d with
 | zero =>
  intro k i h hk
  obtain ⟨k, rfl⟩ : ∃ m, k = m + 1 := ⟨k - 1, by omega⟩
  obtain rfl : i = a.length := by omega
  simp only [slices_Equal_int_int.l0]; rw [if_neg (by omega), List.drop_length, ← he, List.drop_length]; rfl
 | succ d ih =>
  intro k i h hk
  obtain ⟨k, rfl⟩ : ∃ m, k = m + 1 := ⟨k - 1, by omega⟩
  simp only [slices_Equal_int_int.l0]
  have hw : wrap64 ((i : Int) + 1) = ((i + 1 : Nat) : Int) := by unfold wrap64; omega
  have ha : i < a.length := by omega
  have hb : i < b.length := by omega
  rw [if_pos (by omega), if_pos (by omega), if_pos (by omega), if_pos (by omega), hw, ih k (i + 1) (by omega) (by omega), List.drop_eq_getElem_cons ha, List.drop_eq_getElem_cons hb]
  have ea : rd a (i : Int) = a[i] := by simp [rd, ha]
  have eb : rd b (i : Int) = b[i] := by simp [rd, hb]
  rw [ea, eb]
  by_cases q : a[i] = b[i]
  ·rw [if_pos q]; exact congrArg some (decide_eq_decide.2 ⟨fun h_ => by rw [q, h_], fun h_ => (List.cons.inj h_).2⟩)
  ·rw [if_neg q, decide_eq_false (fun h_ => q (List.cons.inj h_).1)]
theorem impl_reached_any.eq (x l1 : List Int) (hl : x.length ≤ 9223372036854775807) : slices_Equal_int_int.f (x.length + 1) x l1 = some (decide (x = l1)) := by
 unfold slices_Equal_int_int.f
 by_cases e : x.length = l1.length
 ·rw [if_pos (by omega)]
  exact impl_reached_any.eq0 x l1 hl e.symm x.length _ 0 (by omega) (by omega)
 ·rw [if_neg (by omega), decide_eq_false (fun h => e (by rw [h]))]
/-! ### impl_reached_any: functions 39 and 40 (by hand) -/
theorem impl_reached_any.lit (x : List Int) (A0_ : Option Addr) (c0_ : Nat) (A1 : Option Addr) (c1 : Nat) (l1 : List Int) (W : World) (hl0_ : x.length ≤ c0_) (hr0_ : Kd.C (Kd.int .i64) W A0_ x.length x) (hr1 : Kd.C (Kd.int .i64) W A1 l1.length l1) (hc1 : l1.length ≤ c1) {B1_ : Nat} (hB1_ : W.heap[B1_]? = some (.cells #[.slice A1 l1.length c1] 31 (0, 0))) :
  Calls Try.prog 40 #[.slice A0_ x.length c0_, .pointer (some ⟨B1_, 0, none⟩)] W fun e w' => e = .returned (.bool (decide (x = l1))) ∧ Below W.heap.size W w' := by
 have hcl1_0 : W.cell? ⟨B1_, 0, none⟩ = some (.slice A1 l1.length c1) := (blk_cell hB1_ 0).trans rfl
 have hbk1_ := blk_lt hB1_
 have HX := Aside0.mk (fun W_ h0_ h1_ => slices_Equal_int_int.calls (x.length + 1) A0_ c0_ x A1 c1 l1 (decide (x = l1)) W_ h0_ hl0_ h1_ hc1 (impl_reached_any.eq x l1 hr0_.2.1))
 obtain ⟨b, hb⟩ : ∃ b : Bool, b = decide (x = l1) := ⟨_, rfl⟩
 rw [← hb] at HX ⊢
 have HR0 := Aside0.mk hr0_
 have HR1 := Aside0.mk hr1
 clear hb hr0_ hr1
 go_enter Try.func40, Try.ntmps40
 go_wp2_with (go_at_call 41; refine (HX.out _ ?_ ?_).mono ?_; (first | exact HR0.out | (with_reducible refine Kd.C_drewN ?_ _; exact HR0.out) | (with_reducible refine Kd.C_drew ?_; exact HR0.out)); (first | exact HR1.out | (with_reducible refine Kd.C_drewN ?_ _; exact HR1.out) | (with_reducible refine Kd.C_drew ?_; exact HR1.out)); rintro e w' ⟨rfl, ⟨nd, rfl⟩⟩)
 go_ret
 exact ⟨rfl, by repeat (first | exact Below.refl _ _ | apply below_alloc | apply pw_below_drewN | apply below_drew1)⟩
set_option maxHeartbeats 4000000 in
set_option maxRecDepth 100000 in
theorem impl_reached_any.idx (A0 : Option Addr) (c0 : Nat) (l0 : List (List Int)) (A1 : Option Addr) (c1 : Nat) (l1 : List Int) (w : World) (hr0 : Kd.C (Kd.slice 3 (Kd.int .i64)) w A0 l0.length l0) (hc0 : l0.length ≤ c0) (hr1 : Kd.C (Kd.int .i64) w A1 l1.length l1) (hc1 : l1.length ≤ c1) {B1_ : Nat} (hB1_ : w.heap[B1_]? = some (.cells #[.slice A1 l1.length c1] 31 (0, 0))) :
  Calls Try.prog 56 #[.slice A0 l0.length c0, .func (.func 40) #[] #[.pointer (some ⟨B1_, 0, none⟩)]] w fun e w' => e = .returned (.int .i64 (idxOf (fun x => decide (x = l1)) l0)) ∧ Below w.heap.size w w' := by
 have HL_ := Aside0.mk hr0.2.1
 have HR0 := Aside0.mk hr0
 have Hhr1 := Aside0.mk hr1
 have Hhc1 := Aside0.mk hc1
 have HhB1_ := Aside0.mk hB1_
 obtain ⟨m_, hm_⟩ : ∃ m_ : Int, m_ = idxOf (fun x => decide (x = l1)) l0 := ⟨_, rfl⟩
 rw [← hm_]
 have HM_ := Aside0.mk hm_
 clear hr0 hc0 hm_ hr1 hc1 hB1_
 go_enter Try.func56, Try.ntmps56
 go_wp2
 go_loopg [5, 8] l0.length (fun gg _ s8 wr => ∃ kk : Int, 0 ≤ kk ∧ kk ≤ l0.length ∧ l0.length - kk.toNat ≤ gg ∧ s8 = .int .i64 kk ∧ Aside0 (Below w.heap.size w wr) ∧ Aside0 (m_ = idxAt (fun x => decide (x = l1)) l0 kk))
 case atStart => exact ⟨0, by omega, by omega, by omega, rfl, ⟨Below.refl _ w⟩, ⟨by rw [HM_.out, idxAt_zero]⟩⟩
 case round =>
  obtain ⟨kk, h0, hkk, hg, rfl, BW, A_⟩ := hrel
  by_cases hlt : kk < (l0.length : Int)
  ·obtain ⟨ad, A0_, c0_, e_, hx0, ⟨hl0_, hr0_⟩⟩ := at_L7 HR0.out kk h0 hlt
   cases e_
   replace hx0 := cell_later BW.out hx0
   have hlit := impl_reached_any.lit (rd_L7 l0 kk) A0_ c0_ A1 c1 l1 wr hl0_ (Kd.C_below hr0_ BW.out) (Kd.C_below Hhr1.out BW.out) Hhc1.out (blk_below HhB1_.out BW.out)
   have HLIT := Aside0.mk hlit
   clear hlit hl0_ hr0_
   obtain ⟨b, hb⟩ : ∃ b : Bool, b = (fun x : List Int => decide (x = l1)) (rd_L7 l0 kk) := ⟨_, rfl⟩
   have HQ := Aside0.mk hb
   replace HLIT : Aside0 (Calls Try.prog 40 #[.slice A0_ (rd_L7 l0 kk).length c0_, .pointer (some ⟨B1_, 0, none⟩)] wr fun e w' => e = .returned (.bool b) ∧ Below wr.heap.size wr w') := by rw [hb]; exact HLIT
   clear hb
   cases b with
   | true =>
    go_wp2_with (go_at_call 40; refine HLIT.out.mono ?_; rintro e w' ⟨rfl, hb'⟩)
    go_ret
    exact ⟨ret_int (by rw [A_.out]; exact (idxAt_hit (fun x => decide (x = l1)) l0 ([] : List Int) kk h0 hlt HQ.out.symm).symm), below_trans BW.out hb'⟩
   | false =>
    go_wp2_with (go_at_call 40; refine HLIT.out.mono ?_; rintro e w' ⟨rfl, hb'⟩)
    have hw1 := wrap_kk h0 hlt HL_.out
    go_roundg (l0.length - (kk.toNat + 1))
    case measure => omega
    case rel => exact ⟨kk + 1, by omega, by omega, by omega, by first | rfl | (rw [hw1]) | (simp only [hw1]), ⟨below_trans BW.out hb'⟩, ⟨by rw [A_.out]; exact idxAt_go (fun x => decide (x = l1)) l0 ([] : List Int) kk h0 hlt HQ.out.symm⟩⟩
  ·go_wp2
   go_ret
   exact ⟨ret_int (by rw [A_.out]; exact (idxAt_end _ _ _ (by omega)).symm), BW.out⟩
def impl_reached_any.f (l0 : List (List Int)) (l1 : List Int) : Option (Bool) := some (l0.any (fun x => decide (x = l1)))
theorem impl_reached_any.calls (A0 : Option Addr) (c0 : Nat) (l0 : List (List Int)) (A1 : Option Addr) (c1 : Nat) (l1 : List Int) (r : Bool) (w : World) (hr0 : Kd.C (Kd.slice 3 (Kd.int .i64)) w A0 l0.length l0) (hc0 : l0.length ≤ c0) (hr1 : Kd.C (Kd.int .i64) w A1 l1.length l1) (hc1 : l1.length ≤ c1) {B1_ : Nat} (hB1_ : w.heap[B1_]? = some (.cells #[.slice A1 l1.length c1] 31 (0, 0))) (h : impl_reached_any.f l0 l1 = some r) :
  Calls Try.prog 39 #[.slice A0 l0.length c0, .func (.func 40) #[] #[.pointer (some ⟨B1_, 0, none⟩)]] w fun e w' => e = .returned (.bool r) ∧ Below w.heap.size w w' := by
 obtain rfl := Option.some.inj h
 have HX := Aside0.mk (impl_reached_any.idx A0 c0 l0 A1 c1 l1 w hr0 hc0 hr1 hc1 hB1_)
 obtain ⟨m_, hm_⟩ : ∃ m_ : Int, m_ = idxOf (fun x => decide (x = l1)) l0 := ⟨_, rfl⟩
 rw [← hm_] at HX
 have HM_ := Aside0.mk hm_
 clear h hr0 hc0 hm_ hr1 hc1 hB1_
 go_enter Try.func39, Try.ntmps39
 go_wp2_with (go_at_call 56; refine HX.out.mono ?_; rintro e w' ⟨rfl, hb⟩)
 go_ret
 exact ⟨by rw [← idxOf_any, ← HM_.out]; rfl, hb⟩
/-- What impl_reached is handed. -/
class KEEP_impl_reached where
 f : Nat → Int → Int → Option (List (List Int))
 mono : ∀ x0 x1 k, LeO (f k x0 x1) (f (k + 1) x0 x1)
section
variable [inst_ : KEEP_impl_reached]
/-! ### impl_reached: function 20 -/
mutual
def impl_reached.l0 : Nat → List (List Int) → Int → Option ((List (List Int)))
 | 0, _, _ => none
 | k + 1, x3, x4 => if x4 < (x3.length : Int) then (if 0 ≤ x4 then (if 0 < ((rd_L7 x3 x4).length : Int) then (if 1 < ((rd_L7 x3 x4).length : Int) then ((KEEP_impl_reached.f k (rd (rd_L7 x3 x4) 0) (rd (rd_L7 x3 x4) 1)).bind fun t378 => (impl_reached.l1 k x3 x4 t378 (t378.length : Int) 0)) else (none)) else (none)) else (none)) else (some x3)
def impl_reached.l1 : Nat → List (List Int) → Int → List (List Int) → Int → Int → Option ((List (List Int)))
 | 0, _, _, _, _, _ => none
 | k + 1, x3, x4, x28, x29, x30 => if x30 < x29 then (if 0 ≤ x30 then (if x30 < (x28.length : Int) then ((impl_reached_any.f x3 (rd_L7 x28 x30)).bind fun t383 => (if t383 = true then (impl_reached.l1 k x3 x4 x28 x29 (wrap64 (x30 + 1))) else (if x3.length < 5864062014805 then (impl_reached.l1 k (x3 ++ [rd_L7 x28 x30]) x4 x28 x29 (wrap64 (x30 + 1))) else (none)))) else (none)) else (none)) else (impl_reached.l0 k x3 (wrap64 (x4 + 1)))
end
def impl_reached.f (k : Nat)  : Option ((List (List Int))) := impl_reached.l0 k (([(([0, 0] : List Int))] : List (List Int))) 0
theorem impl_reached.mono_l : ∀ k, (∀ y0 y1, LeO (impl_reached.l0 k y0 y1) (impl_reached.l0 (k + 1) y0 y1)) ∧ (∀ y0 y1 y2 y3 y4, LeO (impl_reached.l1 k y0 y1 y2 y3 y4) (impl_reached.l1 (k + 1) y0 y1 y2 y3 y4))
 | 0 => ⟨fun _ _ r h => by simp [impl_reached.l0] at h, fun _ _ _ _ _ r h => by simp [impl_reached.l1] at h⟩
 | k + 1 => by
  obtain ⟨ih0, ih1⟩ := impl_reached.mono_l k
  refine ⟨?a0, ?a1⟩
  case' a0 => intros; unfold impl_reached.l0
  case' a1 => intros; unfold impl_reached.l1
  all_goals repeat' first
  | (with_reducible exact ih0 _ _)
  | (with_reducible exact ih1 _ _ _ _ _)
  | (with_reducible exact KEEP_impl_reached.mono _ _ _)
  | (with_reducible exact LeO.refl _)
  | (with_reducible exact LeO.none _)
  | (with_reducible refine LeO.ite ?_ ?_)
  | (with_reducible refine LeO.bind ?_ (fun _ => ?_))
  | exact ih0 _ _
  | exact ih1 _ _ _ _ _
  | exact KEEP_impl_reached.mono _ _ _
  | exact LeO.none _
  | refine LeO.ite ?_ ?_
  | refine LeO.bind ?_ (fun _ => ?_)
theorem impl_reached.mono : ∀ k, LeO (impl_reached.f k ) (impl_reached.f (k + 1) ) := by
 intro  k
 obtain ⟨ih0, ih1⟩ := impl_reached.mono_l k
 unfold impl_reached.f
 repeat' first
   | (with_reducible exact ih0 _ _)
   | (with_reducible exact ih1 _ _ _ _ _)
   | (with_reducible exact KEEP_impl_reached.mono _ _ _)
   | (with_reducible exact LeO.refl _)
   | (with_reducible exact LeO.none _)
   | (with_reducible refine LeO.ite ?_ ?_)
   | (with_reducible refine LeO.bind ?_ (fun _ => ?_))
   | exact ih0 _ _
   | exact ih1 _ _ _ _ _
   | exact KEEP_impl_reached.mono _ _ _
   | exact LeO.none _
   | refine LeO.ite ?_ ?_
   | refine LeO.bind ?_ (fun _ => ?_)
def impl_reached.T5 : Bool × List (List Nat × List Nat) := (true, [([], []), ([], []), ([], []), ([1, 2], [1, 2]), ([3], [3]), ([4], [4]), ([5], [5]), ([], []), ([], []), ([7, 8], [7, 8]), ([9], [9]), ([10], [10]), ([11], [11]), ([0, 6, 12], [0, 6, 12]), ([13], [13]), ([], [])])
def impl_reached.B5 : List Nat := [0, 0, 0, 6, 14, 30, 62, 0, 0, 384, 896, 1920, 3968, 8191, 16383, 0]
theorem impl_reached.tab5 : rtab .any (opsOf Try.f20 5) = impl_reached.T5 := by kernel_rfl
theorem impl_reached.bits5 : waitsOk impl_reached.T5.2 impl_reached.B5 = true := by kernel_rfl
/-- An element of a row whose elements' blocks are told by f. -/
theorem impl_reached.elem {f : Nat → Nat} {w : World} {base n cap : Nat} {ok : Nat → Prop} {ad : Addr} {xs : List (List Int)} (h : (Kd.tag f (Kd.slice 3 (Kd.int .i64))).R 31 w base ok (.slice (some ad) n cap) xs.zipIdx) (i : Int) (h0 : 0 ≤ i) (h1 : i < n) {A : Option Addr} {c : Nat} (hx : w.cell? (ad.add i.toNat) = some (.slice A (rd_L7 xs i).length c)) :
  Kd.R (Kd.int .i64) 3 w base (fun k => (ok k ∧ some k ≠ (Value.slice (some ad) n cap).ownBlock) ∧ f k = i.toNat) (.slice A (rd_L7 xs i).length c) (rd_L7 xs i) := by
 have hn : n = xs.length := by have h2 := (Kd.R_reads' h).1; rw [List.length_zipIdx] at h2; exact h2
 obtain ⟨cs, hcl, hM, hcc⟩ := Kd.R_getA h ([], 0) i h0 h1
 have hil : i.toNat < xs.length := by omega
 have he : xs.zipIdx.getD i.toNat ([], 0) = (rd_L7 xs i, i.toNat) := by
  rw [List.getD_eq_getElem?_getD, List.getElem?_zipIdx, List.getElem?_eq_getElem hil]
  simp [rd_L7, hil]
 rw [he] at hM
 obtain ⟨v, hv, hR⟩ := (show Kd.M (Kd.slice 3 (Kd.int .i64)) w base (fun k => (ok k ∧ some k ≠ (Value.slice (some ad) n cap).ownBlock) ∧ f k = i.toNat) (rd_L7 xs i) cs from hM)
 subst hv
 have h3 := hcc 0 v rfl
 rw [show (Kd.tag f (Kd.slice 3 (Kd.int .i64))).sz = 1 from rfl, Nat.mul_one, Nat.add_zero] at h3
 obtain rfl := Option.some.inj (h3.symm.trans hx)
 exact hR
set_option maxHeartbeats 8000000 in
set_option maxRecDepth 100000 in
theorem impl_reached.calls (k : Nat)  (r : List (List Int)) (w : World) {g_ : Nat} {fn_ : Func} {lb_ : Array Value} (hf_ : Try.prog.funcs[g_]? = some fn_) (hn_ : (fn_.name == "runtime.NumGoroutine") = false) (hbo_ : fn_.body.isSome = true) (hK_ : ∀ (k : Nat) (a0 : Int) (a1 : Int) (r : (List (List Int))) (W : World), Below w.heap.size w W → KEEP_impl_reached.f k a0 a1 = some r → Calls Try.prog g_ (#[.int .i64 a0, .int .i64 a1] ++ lb_) W fun e w' => ∃ v0_ : Value, e = .returned (v0_) ∧ Kd.S (Kd.slice 3 (Kd.int .i64)) 31 w' W.heap.size (fun _ => True) v0_ r ∧ Below W.heap.size W w') (h : impl_reached.f k  = some r) :
  Calls Try.prog 20 #[.func (.func g_) #[] lb_] w fun e w' => ∃ v0_ : Value, e = .returned (v0_) ∧ Kd.S (Kd.slice 3 (Kd.int .i64)) 31 w' w.heap.size (fun _ => True) v0_ r ∧ Below w.heap.size w w' := by
 have HF_ := Aside0.mk hf_
 have HN_ := Aside0.mk hn_
 have HBO_ := Aside0.mk hbo_
 have HKEEP_ := Aside0.mk hK_
 clear hf_ hn_ hbo_ hK_
 have HB := Aside0.mk (Below.refl w.heap.size w)
 have H : (impl_reached.l0 k (([(([0, 0] : List Int))] : List (List Int))) 0) = some r := h
 clear h
 obtain ⟨y368, hy368⟩ : ∃ y_ : List Int, y_ = (([0, 0] : List Int)) := ⟨_, rfl⟩
 replace H : (impl_reached.l0 k (([y368] : List (List Int))) 0) = some r := by first | (rw [hy368]; with_reducible exact H) | (rw [hy368]; exact H) | exact H
 have Ny368 := Aside0.mk hy368
 clear hy368
 obtain ⟨y371, hy371⟩ : ∃ y_ : List (List Int), y_ = (([y368] : List (List Int))) := ⟨_, rfl⟩
 replace H : (impl_reached.l0 k y371 0) = some r := by first | (rw [hy371]; with_reducible exact H) | (rw [hy371]; exact H) | exact H
 have Ny371 := Aside0.mk hy371
 clear hy371
 have H' := Aside0.mk H
 clear H
 go_enter Try.func20, Try.ntmps20
 go_wp2_with (first | ((with_reducible refine gate_dst (N := 7) rfl ?_); refine Kd.R_lit (Kd.int .i64) _ 3 ?hg (N := 7) ?hd (xs := ([0, 0] : List Int)) (inner := [.int .i64 0, .int .i64 0]) (ok := fun _ => True) (okp := fun _ => True) ?hr ?hp (fun _ hk => hk) trivial (Below.refl _ _) (Nat.le_refl _) (by simp) ?_; (case hd => rfl); (case hg => rfl); (case hr => first | (go_simp; done) | (go_simp; rfl)); (case hp => exact (Reps.one (show Kd.M (Kd.int .i64) _ _ _ 0 [.int .i64 0] from rfl) (Reps.one (show Kd.M (Kd.int .i64) _ _ _ 0 [.int .i64 0] from rfl) (Reps.none _ _)))); intro v369 w1 ho2 hb hg_ hnew_; clear hg_ hnew_; (first | rw [← Ny368.out] at ho2 | (simp only [Int.reduceToNat] at ho2; rw [← Ny368.out] at ho2)); have HO370 := Aside0.mk (Kd.R_lower (Kd.R_newM (M := fun k_ => (w.heap.size ≤ k_)) ho2 (below_size (zB HB)) (fun k_ h_ => h_)) (below_size (zB HB))); replace HB := bS HB hb; clear hb ho2; obtain ⟨Ao3, co3, eo3⟩ := Kd.R_slice HO370.out; subst eo3) | ((with_reducible refine gate_dst (N := 8) rfl ?_); refine Kd.S_lits (Kd.slice 3 (Kd.int .i64)) (w0 := w) w.heap.size 31 ?hg (N := 8) ?hd (xs := ([y368] : List (List Int))) (inner := [.slice Ao3 y368.length co3]) (ok := fun _ => True) (fun j_ k_ => j_ = 0 ∧ w.heap.size ≤ k_) ?hr ?hl ?hp ?ha (fun _ _ _ => trivial) trivial (zB HB) (below_size (zB HB)) (by simp) ?_; (case hd => rfl); (case hg => rfl); (case hr => first | (go_simp; done) | (go_simp; rfl)); (case hl => rfl); (case hp => intro j_ x_ hj_; cases j_ with | zero => (obtain rfl := Option.some.inj hj_; exact ⟨_, rfl, (Kd.R_mono HO370.out (fun k_ hk_ => ⟨rfl, hk_.1⟩))⟩) | succ j_ => (exact absurd hj_ (by simp))); (case ha => exact fun i_ j_ k_ h1_ h2_ => h1_.1.trans h2_.1.symm); intro v372 w4 ho5 hb hg_ hnew_; clear hg_ hnew_; (first | rw [← Ny371.out] at ho5 | (simp only [Int.reduceToNat] at ho5; rw [← Ny371.out] at ho5)); have HO373 := Aside0.mk ho5; replace HB := Aside0.mk hb; clear HO370; clear hb ho5))
 go_loopg [3, 4] k (fun kq v3 v4 w' => ∃ (x3_1 : List (List Int)) (x4_1 : Int), v4 = .int .i64 x4_1 ∧ Aside0 (impl_reached.l0 kq x3_1 x4_1 = some r) ∧ Aside0 (kq ≤ k) ∧ Aside0 (Kd.S (Kd.slice 3 (Kd.int .i64)) 31 w' w.heap.size (fun _ => True) v3 x3_1) ∧ Aside0 (Below w.heap.size w w'))
 case atStart => exact ⟨(y371), (0), zF, H', ⟨Nat.le_refl _⟩, ⟨zS HO373⟩, ⟨zB HB⟩⟩
 case round =>
  clear H'
  try clear p2
  try clear c4
  obtain ⟨x3_1, x4_1, rfl, HA, HK1, HO_3, HB⟩ := hrel
  cases gk with
  | zero => exact absurd HA.out (by simp [impl_reached.l0])
  | succ k1 =>
   have H := HA.out
   clear HA
   simp only [impl_reached.l0] at H
   by_cases c6 : x4_1 < (x3_1.length : Int)
   ·rw [if_pos c6] at H
    have c6b0 : decide (x4_1 < (x3_1.length : Int)) = true := decide_eq_true c6
    clear c6
    obtain ⟨c7, H⟩ := ifS H
    have c7b0 : decide (0 ≤ x4_1) = true := decide_eq_true c7
    clear c7
    obtain ⟨c8, H⟩ := ifS H
    have c8b0 : decide (0 < ((rd_L7 x3_1 x4_1).length : Int)) = true := decide_eq_true c8
    have c8b1 : decide (0 < (rd_L7 x3_1 x4_1).length) = true := decide_eq_true (by omega)
    clear c8
    obtain ⟨c9, H⟩ := ifS H
    have c9b0 : decide (1 < ((rd_L7 x3_1 x4_1).length : Int)) = true := decide_eq_true c9
    have c9b1 : decide (1 < (rd_L7 x3_1 x4_1).length) = true := decide_eq_true (by omega)
    clear c9
    obtain ⟨t378, A10, H⟩ := bindS H
    have H' := Aside0.mk H
    clear H
    obtain ⟨Ao11, co11, eo11⟩ := Kd.S_slice HO_3.out
    subst eo11
    try go_wp2
    replace HO_3 := Aside0.mk (Kd.S_drew HO_3.out)
    replace HB := Aside0.mk (below_drew1 HB.out)
    have p374 : 0 ≤ (x4_1 : Int) := zD
    have q374 : x4_1 < (x3_1.length : Int) := zD
    obtain ⟨ad374, A374_0, c374_0, e374, hx374_0, hl374_0, hi374_0⟩ := at_L7 (Kd.S_reads' HO_3.out).2.2 x4_1 p374 q374
    cases e374
    have HR374_0 := Aside0.mk hi374_0
    have HC374_0 := Aside0.mk hl374_0
    clear hi374_0 hl374_0
    replace p374 := eq_true p374
    replace q374 := eq_true q374
    have p375 : 0 ≤ (0 : Int) := (by omega)
    have q375 : 0 < ((rd_L7 x3_1 x4_1).length : Int) := zD
    obtain ⟨ad375, e375, hx375_0⟩ := Kd.at_int (by repeat (first | (with_reducible exact HR374_0.out) | (with_reducible refine Kd.C_alloc ?_ _) | (with_reducible refine Kd.C_drewN ?_ _) | (with_reducible refine Kd.C_drew ?_) | exact HR374_0.out)) 0 p375 q375
    cases e375
    have qi375 : (0 < (rd_L7 x3_1 x4_1).length) = True := eq_true (by omega)
    (try rw [show ((0 : Int)).toNat = 0 from rfl] at hx375_0)
    (try rw [Addr.add_zero'] at hx375_0)
    replace p375 := eq_true p375
    replace q375 := eq_true q375
    have p376 : 0 ≤ (x4_1 : Int) := zD
    have q376 : x4_1 < (x3_1.length : Int) := zD
    obtain ⟨ad376, A376_0, c376_0, e376, hx376_0, hl376_0, hi376_0⟩ := at_L7 (Kd.S_reads' HO_3.out).2.2 x4_1 p376 q376
    obtain rfl : ad374 = ad376 := (by injection e376)
    have HR376_0 := Aside0.mk hi376_0
    have HC376_0 := Aside0.mk hl376_0
    clear hi376_0 hl376_0
    replace p376 := eq_true p376
    replace q376 := eq_true q376
    have ea_ := Option.some.inj (hx374_0.symm.trans hx376_0)
    injection ea_ with ea_ en_ ec_
    subst ea_
    subst ec_
    clear en_
    have p377 : 0 ≤ (1 : Int) := (by omega)
    have q377 : 1 < ((rd_L7 x3_1 x4_1).length : Int) := zD
    obtain ⟨ad377, e377, hx377_0⟩ := Kd.at_int (by repeat (first | (with_reducible exact HR376_0.out) | (with_reducible refine Kd.C_alloc ?_ _) | (with_reducible refine Kd.C_drewN ?_ _) | (with_reducible refine Kd.C_drew ?_) | exact HR376_0.out)) 1 p377 q377
    cases e377
    (try simp only [show (1 : Int).toNat = 1 from rfl, Nat.reduceMul, Nat.reduceEqDiff, Go.Addr.add, ↓reduceIte] at hx377_0)
    have qi377 : (1 < (rd_L7 x3_1 x4_1).length) = True := eq_true (by omega)
    (try rw [show ((1 : Int)).toNat = 1 from rfl] at hx377_0)
    replace p377 := eq_true p377
    replace q377 := eq_true q377
    refine start_ (n := 16) (S := fun w' => w'.cell? (ad374.add (x4_1).toNat) = some (.slice (some ad375) (rd_L7 x3_1 x4_1).length c374_0) ∧ w'.cell? ad375 = some (.int .i64 (rd (rd_L7 x3_1 x4_1) 0)) ∧ w'.cell? (ad374.add (x4_1).toNat) = some (.slice (some ad375) (rd_L7 x3_1 x4_1).length c374_0) ∧ w'.cell? ⟨ad375.block, ad375.off + 1, none⟩ = some (.int .i64 (rd (rd_L7 x3_1 x4_1) 1))) (ds := []) (bm 16 0) (by kernel_rfl) rfl (bm0 _) ⟨hx374_0, hx375_0, hx376_0, hx377_0⟩ (fun hHeld => ?_); refine with_tabW impl_reached.tab5 impl_reached.bits5 (fun HT_ HW_ => ?_)
    generalize wr.drew = w12 at HO_3 HB HR374_0 HR376_0 hx374_0 hx375_0 hx376_0 hx377_0 hHeld ⊢
    refine pU 0 (some 15) (bm 16 1) HT_ rfl rfl ?_
    refine pU 1 (some 16) (bm 16 3) HT_ rfl rfl ?_
    refine pU 2 (some 17) (bm 16 7) HT_ rfl rfl ?_
    refine pU 3 (some 18) (bm 16 15) HT_ rfl rfl ?_
    refine pU 7 (some 22) (bm 16 143) HT_ rfl rfl ?_
    refine pU 8 (some 23) (bm 16 399) HT_ rfl rfl ?_
    refine pU 9 (some 24) (bm 16 911) HT_ rfl rfl ?_
    refine pU 15 (some 30) (bm 16 33679) HT_ rfl rfl ?_
    refine tU 4 (some 19) (bm 16 33695) HT_ HW_ rfl rfl hHeld ?_
    refine pU 5 (some 20) (bm 16 33727) HT_ rfl rfl ?_
    refine tU 6 (some 21) (bm 16 33791) HT_ HW_ rfl rfl hHeld ?_
    refine tU 10 (some 25) (bm 16 34815) HT_ HW_ rfl rfl hHeld ?_
    refine pU 11 (some 26) (bm 16 36863) HT_ rfl rfl ?_
    refine tU 12 (some 27) (bm 16 40959) HT_ HW_ rfl rfl hHeld ?_
    refine one_ (i := 13) (N := some 28) (bm 16 49151) rfl rfl (one_of HT_.out (by kernel_rfl)) (by decide) (fun K hK => ?_)
    refine goesVs_ HF_.out HN_.out HBO_.out #[.int .i64 (rd (rd_L7 x3_1 x4_1) 0), .int .i64 (rd (rd_L7 x3_1 x4_1) 1)] (by rfl) rfl rfl rfl zG ?_
    with_reducible refine (HKEEP_.out k1 (rd (rd_L7 x3_1 x4_1) 0) (rd (rd_L7 x3_1 x4_1) 1) t378 _ ?sideK_ A10.out).mono ?_
    (case sideK_ => repeat (first | (with_reducible first | exact HB.out | apply below_alloc | apply pw_below_drewN | apply below_drew1 | (refine below_set ?_ GE382.out)) | exact HB.out))
    rintro e w13 ⟨v379, rfl, ho0, hb⟩
    have HS0_ := (hb.cell (World.block_lt_of_cell? _ _ (hHeld.1))).trans (hHeld.1)
    have HS1_ := (hb.cell (World.block_lt_of_cell? _ _ (hHeld.2.1))).trans (hHeld.2.1)
    have HS2_ := (hb.cell (World.block_lt_of_cell? _ _ (hHeld.2.2.1))).trans (hHeld.2.2.1)
    have HS3_ := (hb.cell (World.block_lt_of_cell? _ _ (hHeld.2.2.2))).trans (hHeld.2.2.2)
    refine ⟨_, rfl, ?_⟩
    obtain ⟨Ao14, co14, eo14⟩ := Kd.S_slice ho0
    subst eo14
    obtain ⟨f_, hR_⟩ := Kd.S_bound ho0
    obtain ⟨N1, hN1⟩ : ∃ N1 : Nat, N1 = w12.heap.size := ⟨_, rfl⟩
    obtain ⟨N2, hN2⟩ : ∃ N2 : Nat, N2 = w13.heap.size := ⟨_, rfl⟩
    have HOW : Aside0 (∀ k_, (.slice (some ad374) x3_1.length co11 : Value).ownBlock = some k_ → ¬ (N1 ≤ k_ ∧ k_ < N2)) := Aside0.mk (fun k_ hk_ => by have h1_ := Kd.S_lt HO_3.out k_ hk_; rw [hN1]; omega)
    replace HO_3 := Aside0.mk (Kd.S_mono (ok' := fun k_ => ¬ ((N1 ≤ k_ ∧ k_ < N2) ∧ (some k_ = (.slice Ao14 t378.length co14 : Value).ownBlock ∨ (0 : Int) ≤ (f_ k_ : Int)))) (Kd.S_old HO_3.out hb) (fun k_ hk_ => by have h1_ := hk_.2; rw [hN1]; omega))
    have HQ := Aside0.mk (Kd.R_lower (Kd.R_mono (ok' := fun k_ => N1 ≤ k_ ∧ k_ < N2) hR_ (fun k_ hk_ => by have h1_ := hk_.2.1; have h2_ := hk_.2.2.1; rw [hN1, hN2]; exact ⟨h1_, h2_⟩)) (below_size (zB HB)))
    replace HR374_0 := Aside0.mk (Kd.C_below (by repeat (first | (with_reducible exact HR374_0.out) | (with_reducible refine Kd.C_alloc ?_ _) | (with_reducible refine Kd.C_drewN ?_ _) | (with_reducible refine Kd.C_drew ?_) | exact HR374_0.out)) hb)
    replace HR376_0 := Aside0.mk (Kd.C_below (by repeat (first | (with_reducible exact HR376_0.out) | (with_reducible refine Kd.C_alloc ?_ _) | (with_reducible refine Kd.C_drewN ?_ _) | (with_reducible refine Kd.C_drew ?_) | exact HR376_0.out)) hb)
    replace HB := bS HB hb
    have HN2 := Aside0.mk (Nat.le_of_eq hN2)
    clear hb ho0 hR_ hN1 hN2
    refine hK.out _ _ ⟨HS0_, HS1_, HS2_, HS3_⟩ (fun hHeld => ?_)
    clear hK K
    refine nU 28 ?_
    refine pU 14 (some 29) (bm 16 65535) HT_ rfl rfl ?_
    refine done_ (done_of HT_.out (by kernel_rfl)) ?_
    try clear hHeld
    try clear hHeld
    try go_wp2
    go_loopg [3, 30] k1 (fun kq v3 v30 w' => ∃ (x3_2 : List (List Int)) (x30_2 : Int), v30 = .int .i64 x30_2 ∧ Aside0 (impl_reached.l1 kq x3_2 x4_1 t378 (t378.length : Int) x30_2 = some r) ∧ Aside0 (kq ≤ k1) ∧ Aside0 (Kd.S (Kd.slice 3 (Kd.int .i64)) 31 w' w.heap.size (fun k_ => ¬ ((N1 ≤ k_ ∧ k_ < N2) ∧ (some k_ = (.slice Ao14 t378.length co14 : Value).ownBlock ∨ x30_2 ≤ (f_ k_ : Int)))) v3 x3_2) ∧ Aside0 (∀ k_, (v3 : Value).ownBlock = some k_ → ¬ (N1 ≤ k_ ∧ k_ < N2)) ∧ Aside0 ((Kd.tag f_ (Kd.slice 3 (Kd.int .i64))).R 31 w' w.heap.size (fun k_ => N1 ≤ k_ ∧ k_ < N2) (.slice Ao14 t378.length co14) t378.zipIdx) ∧ Aside0 (N2 ≤ w'.heap.size) ∧ Aside0 (Below w.heap.size w w'))
    case atStart => exact ⟨(x3_1), (0), zF, H', ⟨Nat.le_refl _⟩, ⟨zS HO_3⟩, HOW, ⟨zR HQ⟩, HN2, ⟨zB HB⟩⟩
    case round =>
     clear H'
     try clear c1
     try clear p2
     try clear c3
     try clear p3
     try clear q3
     try clear hx3
     try clear qi3
     try clear c4
     try clear c6
     try clear c6b0
     try clear c7
     try clear c7b0
     try clear c8
     try clear c8b0
     try clear c8b1
     try clear c9
     try clear c9b0
     try clear c9b1
     try clear c10
     try clear hx374_0
     try clear hx375_0
     try clear hx376_0
     try clear hx377_0
     try clear p2
     try clear p374
     try clear p375
     try clear p376
     try clear p377
     try clear q374
     try clear q375
     try clear q376
     try clear q377
     obtain ⟨x3_2, x30_2, rfl, HA, HK2, HO_3, HOW, HQ, HN2, HB⟩ := hrel
     cases gk with
     | zero => exact absurd HA.out (by simp [impl_reached.l1])
     | succ k2 =>
      have H := HA.out
      clear HA
      simp only [impl_reached.l1] at H
      by_cases c15 : x30_2 < (t378.length : Int)
      ·rw [if_pos c15] at H
       have c15b0 : decide (x30_2 < (t378.length : Int)) = true := decide_eq_true c15
       clear c15
       obtain ⟨c16, H⟩ := ifS H
       have c16b0 : decide (0 ≤ x30_2) = true := decide_eq_true c16
       clear c16
       obtain ⟨c17, H⟩ := ifS H
       have c17b0 : decide (x30_2 < (t378.length : Int)) = true := decide_eq_true c17
       clear c17
       obtain ⟨t383, A18, H⟩ := bindS H
       by_cases c19 : t383 = true
       ·subst c19
        have H1 : (impl_reached.l1 k2 x3_2 x4_1 t378 (t378.length : Int) (wrap64 (x30_2 + 1))) = some r := by rw [if_pos rfl] at H; exact H
        clear H
        have H := H1
        clear H1
        have H' := Aside0.mk H
        clear H
        have hLT_ : Aside0 (x30_2 < (t378.length : Int) ∧ t378.length ≤ 9223372036854775807 ∧ 0 ≤ x30_2) := Aside0.mk ⟨zD, by have h1_ := (Kd.R_reads' HQ.out).2.2.2.1; rw [List.length_zipIdx] at h1_; exact h1_, zD⟩
        have p381 : 0 ≤ (x30_2 : Int) := zD
        have q381 : x30_2 < (t378.length : Int) := zD
        obtain ⟨ad381, A381_0, c381_0, e381, hx381_0, hl381_0, hi381_0⟩ := at_L7 (Kd.S_reads' (show Kd.S _ _ _ _ _ _ _ from ⟨f_, HQ.out⟩)).2.2 x30_2 p381 q381
        cases e381
        have hE_ := impl_reached.elem HQ.out x30_2 p381 (by first | exact q381 | (have e_ := (Kd.R_reads' HQ.out).1; rw [List.length_zipIdx] at e_; omega)) hx381_0
        have HE := Aside0.mk hE_
        clear hE_
        have P0_ := Aside0.mk p381
        have hw_ : wrap64 (x30_2 + 1) = x30_2 + 1 := by have h1_ := hLT_.out; unfold wrap64; omega
        rw [hw_] at H'
        clear hw_
        have HR381_0 := Aside0.mk hi381_0
        have HC381_0 := Aside0.mk hl381_0
        clear hi381_0 hl381_0
        replace p381 := eq_true p381
        replace q381 := eq_true q381
        go_wp2_with (first | ((with_reducible refine gate_dst (N := 6) rfl ?_); refine box_event ?hg (N := 6) ?hd (cs := #[.slice none 0 0]) (t := 31) ?hr ?_; (case hd => rfl); (case hg => rfl); (case hr => first | (go_simp; done) | (go_simp; rfl)); intro gb382 hg w20 hbox hb; replace HO_3 := Aside0.mk (Kd.S_below (Kd.S_elderB (zS HO_3) gb382 (Nat.le_of_eq hg.symm)) hb); replace HQ := Aside0.mk (Kd.R_below (Kd.R_elderB (zR HQ) gb382 (Nat.le_of_eq hg.symm)) hb); replace HE := Aside0.mk (Kd.R_below (Kd.R_elderB (zR HE) gb382 (Nat.le_of_eq hg.symm)) hb); replace HN2 := Aside0.mk (Nat.le_trans HN2.out hb.size); have BK382 := Aside0.mk (hbox); have GE382 := gS HB hg; replace HB := bS HB hb; clear hb hbox hg; obtain ⟨hcz21_0, hfz21_0⟩ := bq1 BK382) | ((with_reducible refine gate_store (t := 31) (p := 6) rfl ?_); refine store_event (t := 31) (p := 6) (v := ?vo_w22) (w1 := (w20.setCell ⟨gb382, 0, none⟩ (.slice A381_0 (rd_L7 t378 x30_2).length c381_0))) ?hg ?ho ?hn ?hr ?_; (case ho => rfl); (case hg => rfl); (case hn => rfl); (case hr => first | (go_simp; done) | (go_simp; rfl)); intro w22 hw; replace HO_3 : Aside0 (Kd.S (Kd.slice 3 (Kd.int .i64)) 31 w22 w.heap.size (fun k_ => ¬ ((N1 ≤ k_ ∧ k_ < N2) ∧ (some k_ = (.slice (some ad381) t378.length co14 : Value).ownBlock ∨ x30_2 ≤ (f_ k_ : Int)))) u3 x3_2) := ⟨(by rw [hw]; exact (Kd.S_mono (Kd.S_far (p := ⟨gb382, 0, none⟩) HO_3.out (fun _ hk => hk.2) (.slice A381_0 (rd_L7 t378 x30_2).length c381_0)) (fun _ hk => hk.1)))⟩; replace HQ : Aside0 ((Kd.tag f_ (Kd.slice 3 (Kd.int .i64))).R 31 w22 w.heap.size (fun k_ => N1 ≤ k_ ∧ k_ < N2) (.slice (some ad381) t378.length co14) t378.zipIdx) := ⟨(by rw [hw]; exact (Kd.R_mono (Kd.R_far (p := ⟨gb382, 0, none⟩) HQ.out (fun _ hk => hk.2) (.slice A381_0 (rd_L7 t378 x30_2).length c381_0)) (fun _ hk => hk.1)))⟩; replace HE : Aside0 (Kd.R (Kd.int .i64) 3 w22 w.heap.size (fun k_ => ((N1 ≤ k_ ∧ k_ < N2) ∧ some k_ ≠ (.slice (some ad381) t378.length co14 : Value).ownBlock) ∧ f_ k_ = x30_2.toNat) (.slice A381_0 (rd_L7 t378 x30_2).length c381_0) (rd_L7 t378 x30_2)) := ⟨(by rw [hw]; exact (Kd.R_mono (Kd.R_far (p := ⟨gb382, 0, none⟩) HE.out (fun _ hk => hk.2) (.slice A381_0 (rd_L7 t378 x30_2).length c381_0)) (fun _ hk => hk.1)))⟩; replace BK382 : Aside0 (w22.heap[gb382]? = some (.cells #[.slice A381_0 (rd_L7 t378 x30_2).length c381_0] 31 (0, 0))) := ⟨(by rw [hw]; refine blk_put (cs := #[.slice none 0 0]) ?_ 0 _ rfl; exact BK382.out)⟩; replace HB : Aside0 (Below w.heap.size w w22) := ⟨(by rw [hw]; exact (zB HB))⟩; replace HN2 : Aside0 (N2 ≤ w22.heap.size) := ⟨(by rw [hw, World.size_setCell]; exact HN2.out)⟩; clear hw; obtain ⟨Ao23, co23, eo23⟩ := Kd.S_slice HO_3.out; subst eo23) | ((with_reducible refine gate_callee (f := 39) rfl ?_); refine goesL_ (some 36) rfl rfl Try.func39 (by kernel_rfl) rfl #[.slice Ao23 x3_2.length co23, .func (.func 40) #[] #[.pointer (some ⟨gb382, 0, none⟩)]] rfl zG ?_; (with_reducible refine (impl_reached_any.calls _ _ x3_2 A381_0 c381_0 (rd_L7 t378 x30_2) true _ ?side1 ?side2 ?side3 ?side4 ?side5 A18.out).mono ?_); (case side1 => exact (Kd.S_reads' (zS HO_3)).2.2); (case side2 => exact (Kd.S_reads' HO_3.out).2.1); (case side3 => exact (Kd.R_reads' (zR HE)).2.2); (case side4 => exact HC381_0.out); (case side5 => exact (fun h_ => h_) (zK BK382)); rintro e w24 ⟨rfl, hb⟩; refine ⟨_, rfl, ?_⟩; replace HO_3 := Aside0.mk (Kd.S_below (zS HO_3) hb); replace HQ := Aside0.mk (Kd.R_below (zR HQ) hb); replace HE := Aside0.mk (Kd.R_below (zR HE) hb); replace BK382 := kB BK382 hb; replace HB := bS HB hb; replace HN2 := Aside0.mk (Nat.le_trans HN2.out hb.size); (try clear hb); obtain ⟨hcz31_0, hfz31_0⟩ := bq1 BK382))
        go_roundg k2
        case measure => have := HK1.out; have := HK2.out; omega
        case rel => exact ⟨(x3_2), (x30_2 + 1), (by have h1_ := hLT_.out; rw [show wrap64 (x30_2 + 1) = x30_2 + 1 from by unfold wrap64; omega]), H', ⟨by have := HK1.out; have := HK2.out; omega⟩, ⟨Kd.S_mono HO_3.out (fun k_ hk_ hn_ => hk_ ⟨hn_.1, hn_.2.elim .inl (fun h_ => .inr (by omega))⟩)⟩, HOW, ⟨zR HQ⟩, HN2, ⟨zB HB⟩⟩
       ·replace c19 := Bool.eq_false_iff.mpr c19
        subst c19
        have H1 : (if x3_2.length < 5864062014805 then (impl_reached.l1 k2 (x3_2 ++ [rd_L7 t378 x30_2]) x4_1 t378 (t378.length : Int) (wrap64 (x30_2 + 1))) else (none)) = some r := by rw [if_neg (show ¬ (false = true) by decide)] at H; exact H
        clear H
        have H := H1
        clear H1
        obtain ⟨c25, H⟩ := ifS H
        have LMc25 := Aside0.mk c25
        clear c25
        obtain ⟨y384, hy384⟩ : ∃ y_ : List (List Int), y_ = (x3_2 ++ [rd_L7 t378 x30_2]) := ⟨_, rfl⟩
        replace H : (impl_reached.l1 k2 y384 x4_1 t378 (t378.length : Int) (wrap64 (x30_2 + 1))) = some r := by first | (rw [hy384]; with_reducible exact H) | (rw [hy384]; exact H) | exact H
        have Ny384 := Aside0.mk hy384
        clear hy384
        have H' := Aside0.mk H
        clear H
        have hLT_ : Aside0 (x30_2 < (t378.length : Int) ∧ t378.length ≤ 9223372036854775807 ∧ 0 ≤ x30_2) := Aside0.mk ⟨zD, by have h1_ := (Kd.R_reads' HQ.out).2.2.2.1; rw [List.length_zipIdx] at h1_; exact h1_, zD⟩
        have p381 : 0 ≤ (x30_2 : Int) := zD
        have q381 : x30_2 < (t378.length : Int) := zD
        obtain ⟨ad381, A381_0, c381_0, e381, hx381_0, hl381_0, hi381_0⟩ := at_L7 (Kd.S_reads' (show Kd.S _ _ _ _ _ _ _ from ⟨f_, HQ.out⟩)).2.2 x30_2 p381 q381
        cases e381
        have hE_ := impl_reached.elem HQ.out x30_2 p381 (by first | exact q381 | (have e_ := (Kd.R_reads' HQ.out).1; rw [List.length_zipIdx] at e_; omega)) hx381_0
        have HE := Aside0.mk hE_
        clear hE_
        have P0_ := Aside0.mk p381
        have hw_ : wrap64 (x30_2 + 1) = x30_2 + 1 := by have h1_ := hLT_.out; unfold wrap64; omega
        rw [hw_] at H'
        clear hw_
        have HR381_0 := Aside0.mk hi381_0
        have HC381_0 := Aside0.mk hl381_0
        clear hi381_0 hl381_0
        replace p381 := eq_true p381
        replace q381 := eq_true q381
        go_wp2_with (first | ((with_reducible refine gate_dst (N := 6) rfl ?_); refine box_event ?hg (N := 6) ?hd (cs := #[.slice none 0 0]) (t := 31) ?hr ?_; (case hd => rfl); (case hg => rfl); (case hr => first | (go_simp; done) | (go_simp; rfl)); intro gb382 hg w20 hbox hb; replace HO_3 := Aside0.mk (Kd.S_below (Kd.S_elderB (zS HO_3) gb382 (Nat.le_of_eq hg.symm)) hb); replace HQ := Aside0.mk (Kd.R_below (Kd.R_elderB (zR HQ) gb382 (Nat.le_of_eq hg.symm)) hb); replace HE := Aside0.mk (Kd.R_below (Kd.R_elderB (zR HE) gb382 (Nat.le_of_eq hg.symm)) hb); replace HN2 := Aside0.mk (Nat.le_trans HN2.out hb.size); have BK382 := Aside0.mk (hbox); have GE382 := gS HB hg; replace HB := bS HB hb; clear hb hbox hg; obtain ⟨hcz21_0, hfz21_0⟩ := bq1 BK382) | ((with_reducible refine gate_store (t := 31) (p := 6) rfl ?_); refine store_event (t := 31) (p := 6) (v := ?vo_w22) (w1 := (w20.setCell ⟨gb382, 0, none⟩ (.slice A381_0 (rd_L7 t378 x30_2).length c381_0))) ?hg ?ho ?hn ?hr ?_; (case ho => rfl); (case hg => rfl); (case hn => rfl); (case hr => first | (go_simp; done) | (go_simp; rfl)); intro w22 hw; replace HO_3 : Aside0 (Kd.S (Kd.slice 3 (Kd.int .i64)) 31 w22 w.heap.size (fun k_ => ¬ ((N1 ≤ k_ ∧ k_ < N2) ∧ (some k_ = (.slice (some ad381) t378.length co14 : Value).ownBlock ∨ x30_2 ≤ (f_ k_ : Int)))) u3 x3_2) := ⟨(by rw [hw]; exact (Kd.S_mono (Kd.S_far (p := ⟨gb382, 0, none⟩) HO_3.out (fun _ hk => hk.2) (.slice A381_0 (rd_L7 t378 x30_2).length c381_0)) (fun _ hk => hk.1)))⟩; replace HQ : Aside0 ((Kd.tag f_ (Kd.slice 3 (Kd.int .i64))).R 31 w22 w.heap.size (fun k_ => N1 ≤ k_ ∧ k_ < N2) (.slice (some ad381) t378.length co14) t378.zipIdx) := ⟨(by rw [hw]; exact (Kd.R_mono (Kd.R_far (p := ⟨gb382, 0, none⟩) HQ.out (fun _ hk => hk.2) (.slice A381_0 (rd_L7 t378 x30_2).length c381_0)) (fun _ hk => hk.1)))⟩; replace HE : Aside0 (Kd.R (Kd.int .i64) 3 w22 w.heap.size (fun k_ => ((N1 ≤ k_ ∧ k_ < N2) ∧ some k_ ≠ (.slice (some ad381) t378.length co14 : Value).ownBlock) ∧ f_ k_ = x30_2.toNat) (.slice A381_0 (rd_L7 t378 x30_2).length c381_0) (rd_L7 t378 x30_2)) := ⟨(by rw [hw]; exact (Kd.R_mono (Kd.R_far (p := ⟨gb382, 0, none⟩) HE.out (fun _ hk => hk.2) (.slice A381_0 (rd_L7 t378 x30_2).length c381_0)) (fun _ hk => hk.1)))⟩; replace BK382 : Aside0 (w22.heap[gb382]? = some (.cells #[.slice A381_0 (rd_L7 t378 x30_2).length c381_0] 31 (0, 0))) := ⟨(by rw [hw]; refine blk_put (cs := #[.slice none 0 0]) ?_ 0 _ rfl; exact BK382.out)⟩; replace HB : Aside0 (Below w.heap.size w w22) := ⟨(by rw [hw]; exact (zB HB))⟩; replace HN2 : Aside0 (N2 ≤ w22.heap.size) := ⟨(by rw [hw, World.size_setCell]; exact HN2.out)⟩; clear hw; obtain ⟨Ao23, co23, eo23⟩ := Kd.S_slice HO_3.out; subst eo23) | ((with_reducible refine gate_callee (f := 39) rfl ?_); refine goesL_ (some 36) rfl rfl Try.func39 (by kernel_rfl) rfl #[.slice Ao23 x3_2.length co23, .func (.func 40) #[] #[.pointer (some ⟨gb382, 0, none⟩)]] rfl zG ?_; (with_reducible refine (impl_reached_any.calls _ _ x3_2 A381_0 c381_0 (rd_L7 t378 x30_2) false _ ?side1 ?side2 ?side3 ?side4 ?side5 A18.out).mono ?_); (case side1 => exact (Kd.S_reads' (zS HO_3)).2.2); (case side2 => exact (Kd.S_reads' HO_3.out).2.1); (case side3 => exact (Kd.R_reads' (zR HE)).2.2); (case side4 => exact HC381_0.out); (case side5 => exact (fun h_ => h_) (zK BK382)); rintro e w24 ⟨rfl, hb⟩; refine ⟨_, rfl, ?_⟩; replace HO_3 := Aside0.mk (Kd.S_below (zS HO_3) hb); replace HQ := Aside0.mk (Kd.R_below (zR HQ) hb); replace HE := Aside0.mk (Kd.R_below (zR HE) hb); replace BK382 := kB BK382 hb; replace HB := bS HB hb; replace HN2 := Aside0.mk (Nat.le_trans HN2.out hb.size); (try clear hb); obtain ⟨hcz31_0, hfz31_0⟩ := bq1 BK382) | ((with_reducible refine gate_builtin (b := .append) (xs := #[.tmp 38, .tmp 40]) rfl ?_); at_builtin; refine Kd.S_append (Kd.slice 3 (Kd.int .i64)) (w0 := w) w.heap.size rfl (.tmp 38) (.tmp 40) 33 31 (.slice none 0 0) 24 rfl Try.underlying33 info31 rfl (by decide) (by omega) (.slice Ao23 x3_2.length co23) x3_2 (rd_L7 t378 x30_2) [.slice A381_0 (rd_L7 t378 x30_2).length c381_0] (fun k_ => ¬ ((N1 ≤ k_ ∧ k_ < N2) ∧ (some k_ = (.slice (some ad381) t378.length co14 : Value).ownBlock ∨ x30_2 + 1 ≤ (f_ k_ : Int)))) (fun k_ => ((N1 ≤ k_ ∧ k_ < N2) ∧ some k_ ≠ (.slice (some ad381) t378.length co14 : Value).ownBlock) ∧ f_ k_ = x30_2.toNat) rfl rfl ?aP ?aK ?aF ?aO ?aB ?aS ?aL ?_; (case aP => exact ⟨_, rfl, zR HE⟩); (case aK => exact fun k_ hk_ => ⟨fun hn_ => hn_.2.elim (fun e_ => hk_.1.2 e_) (fun h_ => by have h2_ := hk_.2; have h3_ := P0_.out; omega), fun e_ => HOW.out k_ e_.symm hk_.1.1⟩); (case aF => exact fun k_ hk_ hn_ => by have h1_ := hn_.1.2; have h2_ := HN2.out; omega); (case aO => exact Kd.S_mono HO_3.out (fun k_ hk_ => ⟨fun hn_ => hk_ ⟨hn_.1, hn_.2.elim .inl (fun h_ => .inr (by omega))⟩, fun he_ => hk_ ⟨he_.1.1, .inr (by have h2_ := he_.2; have h3_ := P0_.out; omega)⟩⟩)); (case aB => exact (zB HB)); (case aS => exact (below_size (zB HB))); (case aL => have := LMc25.out; omega); intro v385 w32 ho hb hg hat; rw [← Ny384.out] at ho; replace HQ := Aside0.mk (Kd.R_grown HQ.out hg (fun k_ hk_ e_ => HOW.out k_ e_.symm hk_)); replace HOW : Aside0 (∀ k_, (v385 : Value).ownBlock = some k_ → ¬ (N1 ≤ k_ ∧ k_ < N2)) := Aside0.mk (fun k_ hk_ => Or.elim hat (fun h_ => HOW.out k_ (h_.symm.trans hk_)) (fun h_ => by (obtain ⟨b_, hb_, hle_⟩ := h_; rw [hb_] at hk_; have h1_ := Option.some.inj hk_; have h2_ := HN2.out; omega))); replace HB := Aside0.mk (hb); have HO386 := Aside0.mk (ho); replace HN2 : Aside0 (N2 ≤ w32.heap.size) := Aside0.mk (Nat.le_trans HN2.out hg.size); clear HE BK382 HO_3; clear ho hb hg hat))
        go_roundg k2
        case measure => have := HK1.out; have := HK2.out; omega
        case rel => exact ⟨(y384), (x30_2 + 1), (by have h1_ := hLT_.out; rw [show wrap64 (x30_2 + 1) = x30_2 + 1 from by unfold wrap64; omega]), H', ⟨by have := HK1.out; have := HK2.out; omega⟩, ⟨zS HO386⟩, HOW, ⟨zR HQ⟩, HN2, ⟨zB HB⟩⟩
      ·rw [if_neg c15] at H
       have c15b0 : decide (x30_2 < (t378.length : Int)) = false := decide_eq_false c15
       clear c15
       have H' := Aside0.mk H
       clear H
       go_wp2
       go_roundg k2
       case measure => have := HK1.out; have := HK2.out; omega
       case rel => exact ⟨(x3_2), (wrap64 (x4_1 + 1)), zF, H', ⟨by have := HK1.out; have := HK2.out; omega⟩, ⟨Kd.S_mono HO_3.out (fun _ _ => trivial)⟩, ⟨zB HB⟩⟩
   ·rw [if_neg c6] at H
    have c6b0 : decide (x4_1 < (x3_1.length : Int)) = false := decide_eq_false c6
    clear c6
    obtain rfl := Option.some.inj H
    obtain ⟨Ao33, co33, eo33⟩ := Kd.S_slice HO_3.out
    subst eo33
    go_wp2
    go_ret
    exact ⟨_, zE, zS HO_3, zB HB⟩

end

/-! ### slices_Sort_int_int: function 44 (by hand) -/
def slices_Sort_int_int.f (l0 : List Int) : Option (List Int) := if l0.length < 4611686018427387904 then some (l0.mergeSort fun x y => decide (x ≤ y)) else none
theorem slices_Sort_int_int.calls (P0_ : Nat → Prop) (u9000_ : Value) (l0 : List Int) (r : List Int) (w0 w : World) (hB : Below w0.heap.size w0 w) (ho0 : Kd.R (Kd.int .i64) 3 w w0.heap.size P0_ u9000_ l0) (h : slices_Sort_int_int.f l0 = some r) :
  Calls Try.prog 44 #[u9000_] w fun e w' => e = .returned (.tuple #[]) ∧ Kd.R (Kd.int .i64) 3 w' w0.heap.size (fun k_ => (P0_ k_ ∨ w.heap.size ≤ k_)) u9000_ r ∧ Below w0.heap.size w0 w' ∧ Kept w w' (fun k_ => P0_ k_) := by
 unfold slices_Sort_int_int.f at h
 by_cases hl : l0.length < 4611686018427387904
 ·rw [if_pos hl] at h
  exact Go.Proofs.Ytfibjclnaeocbaa.Hs.sort_calls (fun blk off cap zs w hH hb hz => Any.slices_Sort_int Try.lays189 blk off cap zs w hH hb hz) (fun p cap w => Any.slices_Sort_int_none Try.lays189 p cap w) P0_ u9000_ l0 r w0 w hB ho0 hl (Option.some.inj h).symm
 ·rw [if_neg hl] at h; cases h

/-! ### slices_Compact_int_int: function 45 (by hand) -/
def slices_Compact_int_int.f (l0 : List Int) : Option (List Int) := some (Go.Lib.compact l0)
theorem slices_Compact_int_int.calls (P0_ : Nat → Prop) (u9000_ : Value) (l0 : List Int) (r : List Int) (w0 w : World) (hB : Below w0.heap.size w0 w) (ho0 : Kd.R (Kd.int .i64) 3 w w0.heap.size P0_ u9000_ l0) (h : slices_Compact_int_int.f l0 = some r) :
  Calls Try.prog 45 #[u9000_] w fun e w' => ∃ v0_ : Value, e = .returned (v0_) ∧ Kd.R (Kd.int .i64) 3 w' w0.heap.size (fun k_ => (P0_ k_ ∨ w.heap.size ≤ k_)) v0_ r ∧ Below w0.heap.size w0 w' ∧ Kept w w' (fun k_ => P0_ k_) :=
 Go.Proofs.Ytfibjclnaeocbaa.Hs.compact_calls (fun blk off cap zs w hH hz hc => Any.slices_Compact_int Try.laysNm220 blk off cap zs w hH hz hc) (fun p cap w => Any.slices_Compact_int_empty Try.laysNm220 p cap w) P0_ u9000_ l0 r w0 w hB ho0 (Option.some.inj h).symm

end Go.Proofs.Ytfibjclnaeocbaa.PFnChain
