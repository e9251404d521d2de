-- WRITTEN by pp.py, this session's own wrapper around the print; not trusted: Lean checks it
import Derived.Test.YtfibjclnaeocbaaPFnChainx0
import Derived.Test.YtfibjclnaeocbaaPFnChainx1
import Derived.Test.YtfibjclnaeocbaaPFnChainx8
import Derived.Test.YtfibjclnaeocbaaPFnChainx9
namespace Go.Proofs.Ytfibjclnaeocbaa.PFnChain
open Go.RowKit Go.Proofs.Ytfibjclnaeocbaa.Hw Go.Proofs.YtfibjclnaeocbaaW.PrintWords Go.Proofs.YtfibjclnaeocbaaW.PrintLast Go.Proofs.YtfibjclnaeocbaaW.PrintMore
attribute [local go_sem] max2_int min2_int max_two min_two max_three min_three max_four min_four   -- for this text's walks alone
set_option linter.unusedVariables false
set_option linter.unusedSimpArgs false
set_option linter.unusedSectionVars false

/-! ### impl_without: function 26 -/
def impl_without.l0 : Nat → List Int → List Int → List Int → Int → Int → Option (List Int)
 | 0, _, _, _, _, _ => none
 | k + 1, x1, x5, x9, x10, x11 => if x11 < x10 then (if 0 ≤ x11 then (if x11 < (x9.length : Int) then ((slices_Contains_int_int.f k x1 (rd x9 x11)).bind fun t394 => (if t394 = true then (impl_without.l0 k x1 x5 x9 x10 (wrap64 (x11 + 1))) else (if x5.length < 17592186044416 then (impl_without.l0 k x1 (x5 ++ [rd x9 x11]) x9 x10 (wrap64 (x11 + 1))) else (none)))) else (none)) else (none)) else (some x5)
def impl_without.f (k : Nat) (l0 : List Int) (l1 : List Int) : Option (List Int) := impl_without.l0 k l1 (([] : List Int)) l0 (l0.length : Int) 0
theorem impl_without.mono_l : ∀ k, (∀ y0 y1 y2 y3 y4, LeO (impl_without.l0 k y0 y1 y2 y3 y4) (impl_without.l0 (k + 1) y0 y1 y2 y3 y4))
 | 0 => fun _ _ _ _ _ r h => by simp [impl_without.l0] at h
 | k + 1 => by
  have ih0 := impl_without.mono_l k
  ·intro y0 y1 y2 y3 y4
   unfold impl_without.l0
   repeat' first
   | (with_reducible exact ih0 _ _ _ _ _)
   | (with_reducible exact slices_Contains_int_int.mono _ _ _)
   | (with_reducible exact LeO.refl _)
   | (with_reducible exact LeO.none _)
   | (with_reducible refine LeO.ite ?_ ?_)
   | (with_reducible refine LeO.bind ?_ (fun _ => ?_))
   | exact ih0 _ _ _ _ _
   | exact slices_Contains_int_int.mono _ _ _
   | exact LeO.none _
   | refine LeO.ite ?_ ?_
   | refine LeO.bind ?_ (fun _ => ?_)
theorem impl_without.mono : ∀ a0 a1 k, LeO (impl_without.f k a0 a1) (impl_without.f (k + 1) a0 a1) := by
 intro a0 a1 k
 have ih0 := impl_without.mono_l k
 unfold impl_without.f
 repeat' first
   | (with_reducible exact ih0 _ _ _ _ _)
   | (with_reducible exact slices_Contains_int_int.mono _ _ _)
   | (with_reducible exact LeO.refl _)
   | (with_reducible exact LeO.none _)
   | (with_reducible refine LeO.ite ?_ ?_)
   | (with_reducible refine LeO.bind ?_ (fun _ => ?_))
   | exact ih0 _ _ _ _ _
   | exact slices_Contains_int_int.mono _ _ _
   | exact LeO.none _
   | refine LeO.ite ?_ ?_
   | refine LeO.bind ?_ (fun _ => ?_)
set_option maxHeartbeats 8000000 in
set_option maxRecDepth 100000 in
theorem impl_without.calls (k : Nat) (A0 : Option Addr) (c0 : Nat) (l0 : List Int) (A1 : Option Addr) (c1 : Nat) (l1 : List Int) (r : List Int) (w : World) (hr0 : Kd.C (Kd.int .i64) w A0 l0.length l0) (hc0 : l0.length ≤ c0) (hr1 : Kd.C (Kd.int .i64) w A1 l1.length l1) (hc1 : l1.length ≤ c1) (h : impl_without.f k l0 l1 = some r) :
  Calls Try.prog 26 #[.slice A0 l0.length c0, .slice A1 l1.length c1] w fun e w' => ∃ v0_ : Value, e = .returned (v0_) ∧ Kd.R (Kd.int .i64) 3 w' w.heap.size (fun _ => True) v0_ r ∧ Below w.heap.size w w' := by
 have HR0 := Aside0.mk hr0
 have HC0 := Aside0.mk hc0
 clear hr0 hc0
 have HR1 := Aside0.mk hr1
 have HC1 := Aside0.mk hc1
 clear hr1 hc1
 have HB := Aside0.mk (Below.refl w.heap.size w)
 have H : (impl_without.l0 k l1 (([] : List Int)) l0 (l0.length : Int) 0) = some r := h
 clear h
 obtain ⟨y390, hy390⟩ : ∃ y_ : List Int, y_ = (([] : List Int)) := ⟨_, rfl⟩
 replace H : (impl_without.l0 k l1 y390 l0 (l0.length : Int) 0) = some r := by first | (rw [hy390]; with_reducible exact H) | (rw [hy390]; exact H) | exact H
 have Ny390 := Aside0.mk hy390
 clear hy390
 have H' := Aside0.mk H
 clear H
 go_enter Try.func26, Try.ntmps26
 go_wp2_with (first | ((with_reducible refine gate_dst (N := 8) rfl ?_); refine Kd.R_lit (Kd.int .i64) _ 3 ?hg (N := 8) ?hd (xs := ([] : List Int)) (inner := []) (ok := fun _ => True) (okp := fun _ => True) ?hr ?hp (fun _ hk => hk) trivial (Below.refl _ _) (Nat.le_refl _) (by simp) ?_; (case hd => rfl); (case hg => rfl); (case hr => first | (go_simp; done) | (go_simp; rfl)); (case hp => exact (Reps.none _ _)); intro v391 w3 ho4 hb hg_ hnew_; clear hg_ hnew_; (first | rw [← Ny390.out] at ho4 | (simp only [Int.reduceToNat] at ho4; rw [← Ny390.out] at ho4)); have HO392 := Aside0.mk (Kd.R_lower ho4 (below_size (zB HB))); replace HB := bS HB hb; clear hb ho4))
 go_loopg [5, 11] k (fun kq v5 v11 w' => ∃ (x5_1 : List Int) (x11_1 : Int), v11 = .int .i64 x11_1 ∧ Aside0 (impl_without.l0 kq l1 x5_1 l0 (l0.length : Int) x11_1 = some r) ∧ Aside0 (kq ≤ k) ∧ Aside0 (Kd.R (Kd.int .i64) 3 w' w.heap.size (fun _ => True) v5 x5_1) ∧ Aside0 (Below w.heap.size w w'))
 case atStart => exact ⟨(y390), (0), zF, H', ⟨Nat.le_refl _⟩, ⟨zR HO392⟩, ⟨zB HB⟩⟩
 case round =>
  clear H'
  try clear c1
  try clear c2
  try clear p2
  obtain ⟨x5_1, x11_1, rfl, HA, HK1, HO_5, HB⟩ := hrel
  cases gk with
  | zero => exact absurd HA.out (by simp [impl_without.l0])
  | succ k1 =>
   have H := HA.out
   clear HA
   simp only [impl_without.l0] at H
   by_cases c5 : x11_1 < (l0.length : Int)
   ·rw [if_pos c5] at H
    have c5b0 : decide (x11_1 < (l0.length : Int)) = true := decide_eq_true c5
    clear c5
    obtain ⟨c6, H⟩ := ifS H
    have c6b0 : decide (0 ≤ x11_1) = true := decide_eq_true c6
    clear c6
    obtain ⟨c7, H⟩ := ifS H
    have c7b0 : decide (x11_1 < (l0.length : Int)) = true := decide_eq_true c7
    clear c7
    obtain ⟨t394, A8, H⟩ := bindS H
    by_cases c9 : t394 = true
    ·subst c9
     have H1 : (impl_without.l0 k1 l1 x5_1 l0 (l0.length : Int) (wrap64 (x11_1 + 1))) = some r := by rw [if_pos rfl] at H; exact H
     clear H
     have H := H1
     clear H1
     have H' := Aside0.mk H
     clear H
     have p393 : 0 ≤ (x11_1 : Int) := zD
     have q393 : x11_1 < (l0.length : Int) := zD
     obtain ⟨ad393, e393, hx393_0⟩ := Kd.at_int HR0.out x11_1 p393 q393
     cases e393
     replace hx393_0 := hL HB hx393_0
     replace p393 := eq_true p393
     replace q393 := eq_true q393
     go_wp2_with (first | ((with_reducible refine gate_callee (f := 43) rfl ?_); refine goesL_ (some 17) rfl rfl Try.func43 (by kernel_rfl) rfl #[.slice A1 l1.length c1, .int .i64 (rd l0 x11_1)] rfl zG ?_; (with_reducible refine (slices_Contains_int_int.calls k1 _ _ l1 (rd l0 x11_1) true _ ?side1 ?side2 A8.out).mono ?_); (case side1 => exact cS HR1 HB); (case side2 => exact HC1.out); rintro e w' ⟨rfl, ⟨nd, rfl⟩⟩; refine ⟨_, rfl, ?_⟩))
     go_roundg k1
     case measure => have := HK1.out; omega
     case rel => exact ⟨(x5_1), (wrap64 (x11_1 + 1)), zF, H', ⟨by have := HK1.out; omega⟩, ⟨zR HO_5⟩, ⟨zB HB⟩⟩
    ·replace c9 := Bool.eq_false_iff.mpr c9
     subst c9
     have H1 : (if x5_1.length < 17592186044416 then (impl_without.l0 k1 l1 (x5_1 ++ [rd l0 x11_1]) l0 (l0.length : Int) (wrap64 (x11_1 + 1))) else (none)) = some r := by rw [if_neg (show ¬ (false = true) by decide)] at H; exact H
     clear H
     have H := H1
     clear H1
     obtain ⟨c10, H⟩ := ifS H
     have LMc10 := Aside0.mk c10
     clear c10
     obtain ⟨y395, hy395⟩ : ∃ y_ : List Int, y_ = (x5_1 ++ [rd l0 x11_1]) := ⟨_, rfl⟩
     replace H : (impl_without.l0 k1 l1 y395 l0 (l0.length : Int) (wrap64 (x11_1 + 1))) = some r := by first | (rw [hy395]; with_reducible exact H) | (rw [hy395]; exact H) | exact H
     have Ny395 := Aside0.mk hy395
     clear hy395
     have H' := Aside0.mk H
     clear H
     have p393 : 0 ≤ (x11_1 : Int) := zD
     have q393 : x11_1 < (l0.length : Int) := zD
     obtain ⟨ad393, e393, hx393_0⟩ := Kd.at_int HR0.out x11_1 p393 q393
     cases e393
     replace hx393_0 := hL HB hx393_0
     replace p393 := eq_true p393
     replace q393 := eq_true q393
     go_wp2_with (first | ((with_reducible refine gate_callee (f := 43) rfl ?_); refine goesL_ (some 17) rfl rfl Try.func43 (by kernel_rfl) rfl #[.slice A1 l1.length c1, .int .i64 (rd l0 x11_1)] rfl zG ?_; (with_reducible refine (slices_Contains_int_int.calls k1 _ _ l1 (rd l0 x11_1) false _ ?side1 ?side2 A8.out).mono ?_); (case side1 => exact cS HR1 HB); (case side2 => exact HC1.out); rintro e w' ⟨rfl, ⟨nd, rfl⟩⟩; refine ⟨_, rfl, ?_⟩) | ((with_reducible refine gate_builtin (b := .append) (xs := #[.tmp 19, .tmp 21]) rfl ?_); at_builtin; refine Kd.R_append (Kd.int .i64) (w0 := w) w.heap.size rfl (.tmp 19) (.tmp 21) 31 3 (.int .i64 0) 8 rfl Try.underlying31 info3 rfl (by decide) (by omega) u5 x5_1 (rd l0 x11_1) [.int .i64 (rd l0 x11_1)] (fun _ => True) (fun _ => False) rfl rfl ?aP (fun _ hk => hk.elim) ?aF ?aO ?aB ?aS ?aL ?_; (case aP => exact rfl); (case aB => exact (zB HB)); (case aF => exact (fun _ _ => trivial)); (case aO => exact (zR HO_5)); (case aS => exact (below_size (zB HB))); (case aL => have := LMc10.out; omega); intro v396 w11 ho hb hg hat; rw [← Ny395.out] at ho; replace HB := Aside0.mk (hb); have HO397 := Aside0.mk (ho); clear HO_5; clear ho hb hg hat))
     go_roundg k1
     case measure => have := HK1.out; omega
     case rel => exact ⟨(y395), (wrap64 (x11_1 + 1)), zF, H', ⟨by have := HK1.out; omega⟩, ⟨zR HO397⟩, ⟨zB HB⟩⟩
   ·rw [if_neg c5] at H
    have c5b0 : decide (x11_1 < (l0.length : Int)) = false := decide_eq_false c5
    clear c5
    obtain rfl := Option.some.inj H
    go_wp2
    go_ret
    exact ⟨_, zE, by (with_reducible repeat (first | apply Kd.R_alloc | apply Kd.R_drewN | apply Kd.R_drew)); exact HO_5.out, zB HB⟩

/-! ### impl_isEnd: function 28 -/
def impl_isEnd.f (a0_0 : Int) (l0_1 : List Bool) (l0_2 : List (S46)) (a1 : Int) : Option (Bool) := (impl_InRange.f a1 0 (wrap64 ((l0_1.length : Int) - 1))).bind fun t399 => (if t399 = true then (if 0 ≤ a1 then (if a1 < (l0_1.length : Int) then (some (rdOf false l0_1 a1)) else (none)) else (none)) else (some false))
set_option maxHeartbeats 8000000 in
set_option maxRecDepth 100000 in
theorem impl_isEnd.calls (a0_0 : Int) (A0_1 : Option Addr) (c0_1 : Nat) (l0_1 : List Bool) (A0_2 : Option Addr) (c0_2 : Nat) (l0_2 : List (S46)) (a1 : Int) (r : Bool) (w : World) (hr0_1 : Kd.C Kd.bool w A0_1 l0_1.length l0_1) (hc0_1 : l0_1.length ≤ c0_1) (hr0_2 : Kd.C k46 w A0_2 l0_2.length l0_2) (hc0_2 : l0_2.length ≤ c0_2) (h : impl_isEnd.f a0_0 l0_1 l0_2 a1 = some r) :
  Calls Try.prog 28 #[.agg #[.int .i64 a0_0, .slice A0_1 l0_1.length c0_1, .slice A0_2 l0_2.length c0_2], .int .i64 a1] w fun e w' => e = .returned (.bool r) ∧ Below w.heap.size w w' := by
 have hu27 := Try.underlying27
 have HR0_1 := Aside0.mk hr0_1
 have HC0_1 := Aside0.mk hc0_1
 clear hr0_1 hc0_1
 have HR0_2 := Aside0.mk hr0_2
 have HC0_2 := Aside0.mk hc0_2
 clear hr0_2 hc0_2
 have HB := Aside0.mk (Below.refl w.heap.size w)
 have H : ((impl_InRange.f a1 0 (wrap64 ((l0_1.length : Int) - 1))).bind fun t399 => (if t399 = true then (if 0 ≤ a1 then (if a1 < (l0_1.length : Int) then (some (rdOf false l0_1 a1)) else (none)) else (none)) else (some false))) = some r := h
 clear h
 obtain ⟨t399, A3, H⟩ := bindS H
 by_cases c4 : t399 = true
 ·subst c4
  have H1 : (if 0 ≤ a1 then (if a1 < (l0_1.length : Int) then (some (rdOf false l0_1 a1)) else (none)) else (none)) = some r := by rw [if_pos rfl] at H; exact H
  clear H
  have H := H1
  clear H1
  obtain ⟨c5, H⟩ := ifS H
  have c5b0 : decide (0 ≤ a1) = true := decide_eq_true c5
  clear c5
  obtain ⟨c6, H⟩ := ifS H
  have c6b0 : decide (a1 < (l0_1.length : Int)) = true := decide_eq_true c6
  clear c6
  obtain rfl := Option.some.inj H
  go_enter Try.func28, Try.ntmps28
  go_wp2_with (first | ((with_reducible refine gate_dst (N := 2) rfl ?_); refine box_event ?hg (N := 2) ?hd (cs := #[.int .i64 a0_0, .slice A0_1 l0_1.length c0_1, .slice A0_2 l0_2.length c0_2]) (t := 27) ?hr ?_; (case hd => rfl); (case hg => rfl); (case hr => first | (go_simp; done) | (go_simp; rfl)); intro gb398 hg w7 hbox hb; have BK398 := Aside0.mk (hbox); have GW398 := gS HB hg; have GE398 := gS HB hg; replace HB := bS HB hb; clear hb hbox hg; obtain ⟨hcz8_0, hcz8_1, hcz8_2, hfz8_0, hfz8_1, hfz8_2⟩ := bq3 BK398) | ((with_reducible refine gate_callee (f := 22) rfl ?_); refine goesL_ (some 10) rfl rfl Try.func22 (by kernel_rfl) rfl #[.int .i64 a1, .int .i64 0, .int .i64 (wrap64 ((l0_1.length : Int) - 1))] rfl zG ?_; (with_reducible refine (impl_InRange.calls a1 0 (wrap64 ((l0_1.length : Int) - 1)) true _ A3.out).mono ?_); rintro e w' ⟨rfl, ⟨nd, rfl⟩⟩; refine ⟨_, rfl, ?_⟩; have p400 : 0 ≤ (a1 : Int) := zD; have q400 : a1 < (l0_1.length : Int) := zD; obtain ⟨ad400, e400, hx400_0⟩ := Kd.at_bool HR0_1.out a1 p400 q400; cases e400; replace hx400_0 := hL HB hx400_0; replace p400 := eq_true p400; replace q400 := eq_true q400))
  go_ret
  exact ⟨zE, zB HB⟩
 ·replace c4 := Bool.eq_false_iff.mpr c4
  subst c4
  have H1 : (some false) = some r := by rw [if_neg (show ¬ (false = true) by decide)] at H; exact H
  clear H
  have H := H1
  clear H1
  obtain rfl := Option.some.inj H
  go_enter Try.func28, Try.ntmps28
  go_wp2_with (first | ((with_reducible refine gate_dst (N := 2) rfl ?_); refine box_event ?hg (N := 2) ?hd (cs := #[.int .i64 a0_0, .slice A0_1 l0_1.length c0_1, .slice A0_2 l0_2.length c0_2]) (t := 27) ?hr ?_; (case hd => rfl); (case hg => rfl); (case hr => first | (go_simp; done) | (go_simp; rfl)); intro gb398 hg w9 hbox hb; have BK398 := Aside0.mk (hbox); have GW398 := gS HB hg; have GE398 := gS HB hg; replace HB := bS HB hb; clear hb hbox hg; obtain ⟨hcz10_0, hcz10_1, hcz10_2, hfz10_0, hfz10_1, hfz10_2⟩ := bq3 BK398) | ((with_reducible refine gate_callee (f := 22) rfl ?_); refine goesL_ (some 10) rfl rfl Try.func22 (by kernel_rfl) rfl #[.int .i64 a1, .int .i64 0, .int .i64 (wrap64 ((l0_1.length : Int) - 1))] rfl zG ?_; (with_reducible refine (impl_InRange.calls a1 0 (wrap64 ((l0_1.length : Int) - 1)) false _ A3.out).mono ?_); rintro e w' ⟨rfl, ⟨nd, rfl⟩⟩; refine ⟨_, rfl, ?_⟩))
  go_ret
  exact ⟨zE, zB HB⟩

/-! ### impl_FollowsAt: function 37 -/
mutual
def impl_FollowsAt.j0 : Nat → Int → Int → List Int → List Int → List Int → List Int → Bool → Int → List Bool → List (S46) → Int → List Bool → List (S46) → Option (Bool)
 | 0, _, _, _, _, _, _, _, _, _, _, _, _, _ => none
 | k + 1, x2, x3, x9, x10, x11, x12, x25, x402000, x402001, x402002, x403000, x403001, x403002 => if x25 = true then (some false) else (if ((decide ((x11.length : Int) > 0)) != (decide ((x9.length : Int) > 0))) = true then (impl_FollowsAt.j1 k x2 x3 true x402000 x402001 x402002 x403000 x403001 x403002) else (if (x12.length : Int) = 0 then (impl_FollowsAt.j1 k x2 x3 (decide ((x10.length : Int) > 0)) x402000 x402001 x402002 x403000 x403001 x403002) else (impl_FollowsAt.j1 k x2 x3 false x402000 x402001 x402002 x403000 x403001 x403002)))
def impl_FollowsAt.j1 : Nat → Int → Int → Bool → Int → List Bool → List (S46) → Int → List Bool → List (S46) → Option (Bool)
 | 0, _, _, _, _, _, _, _, _, _ => none
 | k + 1, x2, x3, x38, x402000, x402001, x402002, x403000, x403001, x403002 => if x38 = true then (some false) else ((impl_isEnd.f x402000 x402001 x402002 x2).bind fun t421 => (if t421 = true then (some true) else ((impl_isEnd.f x403000 x403001 x403002 x3).bind fun t422 => (some (!t422)))))
end
def impl_FollowsAt.f (k : Nat) (a0_0 : Int) (l0_1 : List Bool) (l0_2 : List (S46)) (a1_0 : Int) (l1_1 : List Bool) (l1_2 : List (S46)) (a2 : Int) (a3 : Int) : Option (Bool) := (impl_MovesFrom.f k a0_0 l0_1 l0_2 a2 true).bind fun t403 => ((impl_MovesFrom.f k a0_0 l0_1 l0_2 a2 false).bind fun t406 => ((impl_MovesFrom.f k a1_0 l1_1 l1_2 a3 true).bind fun t409 => ((impl_MovesFrom.f k a1_0 l1_1 l1_2 a3 false).bind fun t412 => ((impl_without.f k t412 t406).bind fun t415 => (if (t415.length : Int) > 0 then (impl_FollowsAt.j0 k a2 a3 t403 t406 t409 t412 true a0_0 l0_1 l0_2 a1_0 l1_1 l1_2) else ((impl_without.f k t403 t409).bind fun t418 => (impl_FollowsAt.j0 k a2 a3 t403 t406 t409 t412 (decide ((t418.length : Int) > 0)) a0_0 l0_1 l0_2 a1_0 l1_1 l1_2)))))))
theorem impl_FollowsAt.mono_l : ∀ k, (∀ y0 y1 y2 y3 y4 y5 y6 y7 y8 y9 y10 y11 y12, LeO (impl_FollowsAt.j0 k y0 y1 y2 y3 y4 y5 y6 y7 y8 y9 y10 y11 y12) (impl_FollowsAt.j0 (k + 1) y0 y1 y2 y3 y4 y5 y6 y7 y8 y9 y10 y11 y12)) ∧ (∀ y0 y1 y2 y3 y4 y5 y6 y7 y8, LeO (impl_FollowsAt.j1 k y0 y1 y2 y3 y4 y5 y6 y7 y8) (impl_FollowsAt.j1 (k + 1) y0 y1 y2 y3 y4 y5 y6 y7 y8))
 | 0 => ⟨fun _ _ _ _ _ _ _ _ _ _ _ _ _ r h => by simp [impl_FollowsAt.j0] at h, fun _ _ _ _ _ _ _ _ _ r h => by simp [impl_FollowsAt.j1] at h⟩
 | k + 1 => by
  obtain ⟨ih0, ih1⟩ := impl_FollowsAt.mono_l k
  refine ⟨?a0, ?a1⟩
  case' a0 => intros; unfold impl_FollowsAt.j0
  case' a1 => intros; unfold impl_FollowsAt.j1
  all_goals repeat' first
  | (with_reducible exact ih0 _ _ _ _ _ _ _ _ _ _ _ _ _)
  | (with_reducible exact ih1 _ _ _ _ _ _ _ _ _)
  | (with_reducible exact impl_MovesFrom.mono _ _ _ _ _ _)
  | (with_reducible exact impl_without.mono _ _ _)
  | (with_reducible exact LeO.refl _)
  | (with_reducible exact LeO.none _)
  | (with_reducible refine LeO.ite ?_ ?_)
  | (with_reducible refine LeO.bind ?_ (fun _ => ?_))
  | exact ih0 _ _ _ _ _ _ _ _ _ _ _ _ _
  | exact ih1 _ _ _ _ _ _ _ _ _
  | exact impl_MovesFrom.mono _ _ _ _ _ _
  | exact impl_without.mono _ _ _
  | exact LeO.none _
  | refine LeO.ite ?_ ?_
  | refine LeO.bind ?_ (fun _ => ?_)
theorem impl_FollowsAt.mono : ∀ a0 a1 a2 a3 a4 a5 a6 a7 k, LeO (impl_FollowsAt.f k a0 a1 a2 a3 a4 a5 a6 a7) (impl_FollowsAt.f (k + 1) a0 a1 a2 a3 a4 a5 a6 a7) := by
 intro a0 a1 a2 a3 a4 a5 a6 a7 k
 obtain ⟨ih0, ih1⟩ := impl_FollowsAt.mono_l k
 unfold impl_FollowsAt.f
 repeat' first
   | (with_reducible exact ih0 _ _ _ _ _ _ _ _ _ _ _ _ _)
   | (with_reducible exact ih1 _ _ _ _ _ _ _ _ _)
   | (with_reducible exact impl_MovesFrom.mono _ _ _ _ _ _)
   | (with_reducible exact impl_without.mono _ _ _)
   | (with_reducible exact LeO.refl _)
   | (with_reducible exact LeO.none _)
   | (with_reducible refine LeO.ite ?_ ?_)
   | (with_reducible refine LeO.bind ?_ (fun _ => ?_))
   | exact ih0 _ _ _ _ _ _ _ _ _ _ _ _ _
   | exact ih1 _ _ _ _ _ _ _ _ _
   | exact impl_MovesFrom.mono _ _ _ _ _ _
   | exact impl_without.mono _ _ _
   | exact LeO.none _
   | refine LeO.ite ?_ ?_
   | refine LeO.bind ?_ (fun _ => ?_)
def impl_FollowsAt.T1 : Bool × List (List Nat × List Nat) := (true, [([], []), ([], []), ([0, 1], [0, 1]), ([], []), ([], []), ([3, 4, 2], [3, 4]), ([2, 5, 0, 1, 2], [2]), ([5, 6, 0, 1, 2, 3, 4, 5, 6], [5])])
def impl_FollowsAt.B1 : List Nat := [0, 0, 3, 0, 0, 31, 63, 127]
theorem impl_FollowsAt.tab1 : rtab .any (opsOf Try.f37 1) = impl_FollowsAt.T1 := by kernel_rfl
theorem impl_FollowsAt.bits1 : waitsOk impl_FollowsAt.T1.2 impl_FollowsAt.B1 = true := by kernel_rfl
def impl_FollowsAt.T2 : Bool × List (List Nat × List Nat) := (true, [([], []), ([], []), ([0, 1], [0, 1]), ([], []), ([], []), ([3, 4, 2], [3, 4]), ([2, 5, 0, 1, 2], [2]), ([5, 6, 0, 1, 2, 3, 4, 5, 6], [5])])
def impl_FollowsAt.B2 : List Nat := [0, 0, 3, 0, 0, 31, 63, 127]
theorem impl_FollowsAt.tab2 : rtab .any (opsOf Try.f37 2) = impl_FollowsAt.T2 := by kernel_rfl
theorem impl_FollowsAt.bits2 : waitsOk impl_FollowsAt.T2.2 impl_FollowsAt.B2 = true := by kernel_rfl
set_option maxHeartbeats 8000000 in
set_option maxRecDepth 100000 in
theorem impl_FollowsAt.calls (k : Nat) (a0_0 : Int) (A0_1 : Option Addr) (c0_1 : Nat) (l0_1 : List Bool) (A0_2 : Option Addr) (c0_2 : Nat) (l0_2 : List (S46)) (a1_0 : Int) (A1_1 : Option Addr) (c1_1 : Nat) (l1_1 : List Bool) (A1_2 : Option Addr) (c1_2 : Nat) (l1_2 : List (S46)) (a2 : Int) (a3 : Int) (r : Bool) (w : World) (hr0_1 : Kd.C Kd.bool w A0_1 l0_1.length l0_1) (hc0_1 : l0_1.length ≤ c0_1) (hr0_2 : Kd.C k46 w A0_2 l0_2.length l0_2) (hc0_2 : l0_2.length ≤ c0_2) (hr1_1 : Kd.C Kd.bool w A1_1 l1_1.length l1_1) (hc1_1 : l1_1.length ≤ c1_1) (hr1_2 : Kd.C k46 w A1_2 l1_2.length l1_2) (hc1_2 : l1_2.length ≤ c1_2) (h : impl_FollowsAt.f k a0_0 l0_1 l0_2 a1_0 l1_1 l1_2 a2 a3 = some r) :
  Calls Try.prog 37 #[.agg #[.int .i64 a0_0, .slice A0_1 l0_1.length c0_1, .slice A0_2 l0_2.length c0_2], .agg #[.int .i64 a1_0, .slice A1_1 l1_1.length c1_1, .slice A1_2 l1_2.length c1_2], .int .i64 a2, .int .i64 a3] w fun e w' => e = .returned (.bool r) ∧ Below w.heap.size w w' := by
 have hu27 := Try.underlying27
 have HR0_1 := Aside0.mk hr0_1
 have HC0_1 := Aside0.mk hc0_1
 clear hr0_1 hc0_1
 have HR0_2 := Aside0.mk hr0_2
 have HC0_2 := Aside0.mk hc0_2
 clear hr0_2 hc0_2
 have HR1_1 := Aside0.mk hr1_1
 have HC1_1 := Aside0.mk hc1_1
 clear hr1_1 hc1_1
 have HR1_2 := Aside0.mk hr1_2
 have HC1_2 := Aside0.mk hc1_2
 clear hr1_2 hc1_2
 have HB := Aside0.mk (Below.refl w.heap.size w)
 have H : ((impl_MovesFrom.f k a0_0 l0_1 l0_2 a2 true).bind fun t403 => ((impl_MovesFrom.f k a0_0 l0_1 l0_2 a2 false).bind fun t406 => ((impl_MovesFrom.f k a1_0 l1_1 l1_2 a3 true).bind fun t409 => ((impl_MovesFrom.f k a1_0 l1_1 l1_2 a3 false).bind fun t412 => ((impl_without.f k t412 t406).bind fun t415 => (if (t415.length : Int) > 0 then (impl_FollowsAt.j0 k a2 a3 t403 t406 t409 t412 true a0_0 l0_1 l0_2 a1_0 l1_1 l1_2) else ((impl_without.f k t403 t409).bind fun t418 => (impl_FollowsAt.j0 k a2 a3 t403 t406 t409 t412 (decide ((t418.length : Int) > 0)) a0_0 l0_1 l0_2 a1_0 l1_1 l1_2)))))))) = some r := h
 clear h
 obtain ⟨t403, A5, H⟩ := bindS H
 obtain ⟨t406, A6, H⟩ := bindS H
 obtain ⟨t409, A7, H⟩ := bindS H
 obtain ⟨t412, A8, H⟩ := bindS H
 have HC9 := Aside0.mk H
 clear H
 go_enter Try.func37, Try.ntmps37
 try go_wp2_with (first | ((with_reducible refine gate_dst (N := 4) rfl ?_); (try (refine gate_guard (by rfl) ?_; dsimp only)); refine box_event ?hg (N := 4) ?hd (cs := #[.int .i64 a0_0, .slice A0_1 l0_1.length c0_1, .slice A0_2 l0_2.length c0_2]) (t := 27) ?hr ?_; (case hd => rfl); (case hg => rfl); (case hr => first | (go_simp; done) | (go_simp; rfl)); intro gb401 hg w10 hbox hb; have BK401 := Aside0.mk (hbox); have GW401 := gS HB hg; have GE401 := gS HB hg; replace HB := bS HB hb; clear hb hbox hg) | ((with_reducible refine gate_dst (N := 5) rfl ?_); (try (refine gate_guard (by rfl) ?_; dsimp only)); refine box_event ?hg (N := 5) ?hd (cs := #[.int .i64 a1_0, .slice A1_1 l1_1.length c1_1, .slice A1_2 l1_2.length c1_2]) (t := 27) ?hr ?_; (case hd => rfl); (case hg => rfl); (case hr => first | (go_simp; done) | (go_simp; rfl)); intro gb402 hg w11 hbox hb; have BK402 := Aside0.mk (hbox); have GW402 := gS HB hg; have GE402 := gS HB hg; replace HB := bS HB hb; have NB401_402 := nL BK401 hg; have NB402_401 := nR BK401 hg; replace BK401 := kB BK401 hb; clear hb hbox hg))
 replace BK401 := Aside0.mk (blk_drew BK401.out)
 replace BK402 := Aside0.mk (blk_drew BK402.out)
 replace HB := Aside0.mk (below_drew1 HB.out)
 refine start_ (n := 8) (S := fun w' => w'.cell? ⟨gb401, 0, none⟩ = some (.int .i64 a0_0) ∧ w'.cell? ⟨gb401, 1, none⟩ = some (.slice A0_1 l0_1.length c0_1) ∧ w'.cell? ⟨gb401, 2, none⟩ = some (.slice A0_2 l0_2.length c0_2)) (ds := []) (bm 8 0) (by kernel_rfl) rfl (bm0 _) ⟨bc0 BK401, bc1 BK401, bc2 BK401⟩ (fun hHeld => ?_); refine with_tabW impl_FollowsAt.tab1 impl_FollowsAt.bits1 (fun HT_ HW_ => ?_)
 generalize w11.drew = w12 at BK401 BK402 HB hHeld ⊢
 refine pU 1 (some 14) (bm 8 2) HT_ rfl rfl ?_
 refine pU 4 (some 17) (bm 8 18) HT_ rfl rfl ?_
 refine tU 0 (some 13) (bm 8 19) HT_ HW_ rfl rfl hHeld ?_
 refine tU 3 (some 16) (bm 8 27) HT_ HW_ rfl rfl hHeld ?_
 refine one_ (i := 2) (N := some 15) (bm 8 31) rfl rfl (one_of HT_.out (by kernel_rfl)) (by decide) (fun K hK => ?_)
 refine goes_ Try.func27 (by kernel_rfl) rfl #[.agg #[.int .i64 a0_0, .slice A0_1 l0_1.length c0_1, .slice A0_2 l0_2.length c0_2], .int .i64 a2, .bool true] (by rfl) rfl rfl zG ?_
 with_reducible refine (impl_MovesFrom.calls k a0_0 _ _ l0_1 _ _ l0_2 a2 true t403 _ ?side1 ?side2 ?side3 ?side4 A5.out).mono ?_
 (case side1 => exact cS HR0_1 HB)
 (case side2 => exact HC0_1.out)
 (case side3 => exact cS HR0_2 HB)
 (case side4 => exact HC0_2.out)
 rintro e w13 ⟨v404, rfl, ho0, hb⟩
 refine ⟨_, rfl, ?_⟩
 have HO405 := Aside0.mk (Kd.R_lower ho0 (below_size (zB HB)))
 replace BK401 := kB BK401 hb
 replace BK402 := kB BK402 hb
 replace HB := bS HB hb
 (try clear hb); (try clear hb2); (try clear hk); (try clear hi); (try clear ho0)
 refine hK.out _ _ ⟨bc0 BK401, bc1 BK401, bc2 BK401⟩ (fun hHeld => ?_)
 clear hK K
 refine nU 15 ?_
 refine one_ (i := 5) (N := some 18) (bm 8 63) rfl rfl (one_of HT_.out (by kernel_rfl)) (by decide) (fun K hK => ?_)
 refine goes_ Try.func27 (by kernel_rfl) rfl #[.agg #[.int .i64 a0_0, .slice A0_1 l0_1.length c0_1, .slice A0_2 l0_2.length c0_2], .int .i64 a2, .bool false] (by rfl) rfl rfl zG ?_
 with_reducible refine (impl_MovesFrom.calls k a0_0 _ _ l0_1 _ _ l0_2 a2 false t406 _ ?side1 ?side2 ?side3 ?side4 A6.out).mono ?_
 (case side1 => exact cS HR0_1 HB)
 (case side2 => exact HC0_1.out)
 (case side3 => exact cS HR0_2 HB)
 (case side4 => exact HC0_2.out)
 rintro e w14 ⟨v407, rfl, ho0, hb⟩
 refine ⟨_, rfl, ?_⟩
 have HO408 := Aside0.mk (Kd.R_lower (Kd.R_new' ho0 (Kd.R_lt (zR HO405))) (below_size (zB HB)))
 replace HO405 := Aside0.mk (Kd.R_elder' (zR HO405) (Kd.R_base ho0) hb)
 replace BK401 := kB BK401 hb
 replace BK402 := kB BK402 hb
 replace HB := bS HB hb
 (try clear hb); (try clear hb2); (try clear hk); (try clear hi); (try clear ho0)
 refine hK.out _ _ ⟨bc0 BK401, bc1 BK401, bc2 BK401⟩ (fun hHeld => ?_)
 clear hK K
 refine nU 18 ?_
 refine pU 6 (some 9) (bm 8 127) HT_ rfl rfl ?_
 refine pU 7 (some 10) (bm 8 255) HT_ rfl rfl ?_
 refine done_ (done_of HT_.out (by kernel_rfl)) ?_
 try clear hHeld
 try go_wp2
 replace HO405 := Aside0.mk (Kd.R_drew HO405.out)
 replace HO408 := Aside0.mk (Kd.R_drew HO408.out)
 replace BK401 := Aside0.mk (blk_drew BK401.out)
 replace BK402 := Aside0.mk (blk_drew BK402.out)
 replace HB := Aside0.mk (below_drew1 HB.out)
 refine start_ (n := 8) (S := fun w' => w'.cell? ⟨gb402, 0, none⟩ = some (.int .i64 a1_0) ∧ w'.cell? ⟨gb402, 1, none⟩ = some (.slice A1_1 l1_1.length c1_1) ∧ w'.cell? ⟨gb402, 2, none⟩ = some (.slice A1_2 l1_2.length c1_2)) (ds := []) (bm 8 0) (by kernel_rfl) rfl (bm0 _) ⟨bc0 BK402, bc1 BK402, bc2 BK402⟩ (fun hHeld => ?_); refine with_tabW impl_FollowsAt.tab2 impl_FollowsAt.bits2 (fun HT_ HW_ => ?_)
 generalize w14.drew = w15 at HO405 HO408 BK401 BK402 HB hHeld ⊢
 refine pU 1 (some 20) (bm 8 2) HT_ rfl rfl ?_
 refine pU 4 (some 23) (bm 8 18) HT_ rfl rfl ?_
 refine tU 0 (some 19) (bm 8 19) HT_ HW_ rfl rfl hHeld ?_
 refine tU 3 (some 22) (bm 8 27) HT_ HW_ rfl rfl hHeld ?_
 refine one_ (i := 2) (N := some 21) (bm 8 31) rfl rfl (one_of HT_.out (by kernel_rfl)) (by decide) (fun K hK => ?_)
 refine goes_ Try.func27 (by kernel_rfl) rfl #[.agg #[.int .i64 a1_0, .slice A1_1 l1_1.length c1_1, .slice A1_2 l1_2.length c1_2], .int .i64 a3, .bool true] (by rfl) rfl rfl zG ?_
 with_reducible refine (impl_MovesFrom.calls k a1_0 _ _ l1_1 _ _ l1_2 a3 true t409 _ ?side1 ?side2 ?side3 ?side4 A7.out).mono ?_
 (case side1 => exact cS HR1_1 HB)
 (case side2 => exact HC1_1.out)
 (case side3 => exact cS HR1_2 HB)
 (case side4 => exact HC1_2.out)
 rintro e w16 ⟨v410, rfl, ho0, hb⟩
 refine ⟨_, rfl, ?_⟩
 have HO411 := Aside0.mk (Kd.R_lower (Kd.R_new' (Kd.R_new' ho0 (Kd.R_lt (zR HO405))) (Kd.R_lt (zR HO408))) (below_size (zB HB)))
 replace HO405 := Aside0.mk (Kd.R_elder' (zR HO405) (Kd.R_base ho0) hb)
 replace HO408 := Aside0.mk (Kd.R_elder' (zR HO408) (Kd.R_base ho0) hb)
 replace BK401 := kB BK401 hb
 replace BK402 := kB BK402 hb
 replace HB := bS HB hb
 (try clear hb); (try clear hb2); (try clear hk); (try clear hi); (try clear ho0)
 refine hK.out _ _ ⟨bc0 BK402, bc1 BK402, bc2 BK402⟩ (fun hHeld => ?_)
 clear hK K
 refine nU 21 ?_
 refine one_ (i := 5) (N := some 24) (bm 8 63) rfl rfl (one_of HT_.out (by kernel_rfl)) (by decide) (fun K hK => ?_)
 refine goes_ Try.func27 (by kernel_rfl) rfl #[.agg #[.int .i64 a1_0, .slice A1_1 l1_1.length c1_1, .slice A1_2 l1_2.length c1_2], .int .i64 a3, .bool false] (by rfl) rfl rfl zG ?_
 with_reducible refine (impl_MovesFrom.calls k a1_0 _ _ l1_1 _ _ l1_2 a3 false t412 _ ?side1 ?side2 ?side3 ?side4 A8.out).mono ?_
 (case side1 => exact cS HR1_1 HB)
 (case side2 => exact HC1_1.out)
 (case side3 => exact cS HR1_2 HB)
 (case side4 => exact HC1_2.out)
 rintro e w17 ⟨v413, rfl, ho0, hb⟩
 refine ⟨_, rfl, ?_⟩
 have HO414 := Aside0.mk (Kd.R_lower (Kd.R_new' (Kd.R_new' (Kd.R_new' ho0 (Kd.R_lt (zR HO405))) (Kd.R_lt (zR HO408))) (Kd.R_lt (zR HO411))) (below_size (zB HB)))
 replace HO405 := Aside0.mk (Kd.R_elder' (zR HO405) (Kd.R_base ho0) hb)
 replace HO408 := Aside0.mk (Kd.R_elder' (zR HO408) (Kd.R_base ho0) hb)
 replace HO411 := Aside0.mk (Kd.R_elder' (zR HO411) (Kd.R_base ho0) hb)
 replace BK401 := kB BK401 hb
 replace BK402 := kB BK402 hb
 replace HB := bS HB hb
 (try clear hb); (try clear hb2); (try clear hk); (try clear hi); (try clear ho0)
 refine hK.out _ _ ⟨bc0 BK402, bc1 BK402, bc2 BK402⟩ (fun hHeld => ?_)
 clear hK K
 refine nU 24 ?_
 refine pU 6 (some 11) (bm 8 127) HT_ rfl rfl ?_
 refine pU 7 (some 12) (bm 8 255) HT_ rfl rfl ?_
 refine done_ (done_of HT_.out (by kernel_rfl)) ?_
 try clear hHeld
 go_upto_region 3 with (fail)
 go_cut [25] (fun v25 wc => ∃ (kq : Nat) (x25_8 : Bool), v25 = .bool x25_8 ∧ Aside0 (impl_FollowsAt.j0 kq a2 a3 t403 t406 t409 t412 x25_8 a0_0 l0_1 l0_2 a1_0 l1_1 l1_2 = some r) ∧ Aside0 (kq ≤ k) ∧ Aside0 (Kd.R (Kd.int .i64) 3 wc w.heap.size (fun k_ => some k_ ≠ (v407 : Value).ownBlock ∧ some k_ ≠ (v410 : Value).ownBlock ∧ some k_ ≠ (v413 : Value).ownBlock) v404 t403) ∧ Aside0 (Kd.R (Kd.int .i64) 3 wc w.heap.size (fun k_ => some k_ ≠ (v404 : Value).ownBlock ∧ some k_ ≠ (v410 : Value).ownBlock ∧ some k_ ≠ (v413 : Value).ownBlock) v407 t406) ∧ Aside0 (Kd.R (Kd.int .i64) 3 wc w.heap.size (fun k_ => some k_ ≠ (v404 : Value).ownBlock ∧ some k_ ≠ (v407 : Value).ownBlock ∧ some k_ ≠ (v413 : Value).ownBlock) v410 t409) ∧ Aside0 (Kd.R (Kd.int .i64) 3 wc w.heap.size (fun k_ => some k_ ≠ (v404 : Value).ownBlock ∧ some k_ ≠ (v407 : Value).ownBlock ∧ some k_ ≠ (v410 : Value).ownBlock) v413 t412) ∧ Aside0 (wc.heap[gb401]? = some (.cells #[.int .i64 a0_0, (.slice A0_1 l0_1.length c0_1), (.slice A0_2 l0_2.length c0_2)] 27 (0, 0))) ∧ Aside0 (wc.heap[gb402]? = some (.cells #[.int .i64 a1_0, (.slice A1_1 l1_1.length c1_1), (.slice A1_2 l1_2.length c1_2)] 27 (0, 0))) ∧ Aside0 (Below w.heap.size w wc))
 case first =>
  have H := HC9.out
  clear HC9
  obtain ⟨t415, A18, H⟩ := bindS H
  by_cases c19 : (t415.length : Int) > 0
  ·rw [if_pos c19] at H
   have c19b0 : decide (0 < (t415.length : Int)) = true := decide_eq_true c19
   have c19b1 : decide (0 < t415.length) = true := decide_eq_true (by omega)
   clear c19
   (first | rw [c19b0] | (simp only [i64_w, i32_w]; rw [c19b0]) | skip)
   have H' := Aside0.mk H
   clear H
   obtain ⟨Ao20, co20, eo20⟩ := Kd.R_slice HO414.out
   subst eo20
   obtain ⟨Ao21, co21, eo21⟩ := Kd.R_slice HO408.out
   subst eo21
   go_wp2_with (first | ((with_reducible refine gate_callee (f := 26) rfl ?_); refine goesL_ (some 28) rfl rfl Try.func26 (by kernel_rfl) rfl #[.slice Ao20 t412.length co20, .slice Ao21 t406.length co21] rfl zG ?_; (with_reducible refine (impl_without.calls k _ _ t412 _ _ t406 t415 _ ?side1 ?side2 ?side3 ?side4 A18.out).mono ?_); (case side1 => exact cU (Kd.R_reads' HO414.out).2.2); (case side2 => exact (Kd.R_reads' HO414.out).2.1); (case side3 => exact cU (Kd.R_reads' HO408.out).2.2); (case side4 => exact (Kd.R_reads' HO408.out).2.1); rintro e w22 ⟨v416, rfl, ho0, hb⟩; refine ⟨_, rfl, ?_⟩; have HO417 := Aside0.mk (Kd.R_lower (Kd.R_new' (Kd.R_new' (Kd.R_new' (Kd.R_new' ho0 (Kd.R_lt (zR HO405))) (Kd.R_lt (zR HO408))) (Kd.R_lt (zR HO411))) (Kd.R_lt (zR HO414))) (below_size (zB HB))); replace HO405 := Aside0.mk (Kd.R_elder' (zR HO405) (Kd.R_base ho0) hb); replace HO408 := Aside0.mk (Kd.R_elder' (zR HO408) (Kd.R_base ho0) hb); replace HO411 := Aside0.mk (Kd.R_elder' (zR HO411) (Kd.R_base ho0) hb); replace HO414 := Aside0.mk (Kd.R_elder' (zR HO414) (Kd.R_base ho0) hb); replace BK401 := kB BK401 hb; replace BK402 := kB BK402 hb; replace HB := bS HB hb; (try clear hb); (try clear ho0); obtain ⟨Ao23, co23, eo23⟩ := Kd.R_slice HO417.out; subst eo23))
   go_meet
   case rel => exact ⟨_, (true), zF, H', ⟨by first | omega | exact Nat.le_refl _⟩, ⟨by (with_reducible repeat (first | apply Kd.R_alloc | apply Kd.R_drewN | apply Kd.R_drew)); exact Kd.R_mono HO405.out (fun _ hk => ⟨hk.1.1.1.2, ⟨hk.1.1.2, hk.1.2⟩⟩)⟩, ⟨by (with_reducible repeat (first | apply Kd.R_alloc | apply Kd.R_drewN | apply Kd.R_drew)); exact Kd.R_mono HO408.out (fun _ hk => ⟨hk.1.1.1.2, ⟨hk.1.1.2, hk.1.2⟩⟩)⟩, ⟨by (with_reducible repeat (first | apply Kd.R_alloc | apply Kd.R_drewN | apply Kd.R_drew)); exact Kd.R_mono HO411.out (fun _ hk => ⟨hk.1.1.1.2, ⟨hk.1.1.2, hk.1.2⟩⟩)⟩, ⟨by (with_reducible repeat (first | apply Kd.R_alloc | apply Kd.R_drewN | apply Kd.R_drew)); exact Kd.R_mono HO414.out (fun _ hk => ⟨hk.1.1.1.2, ⟨hk.1.1.2, hk.1.2⟩⟩)⟩, ⟨zK BK401⟩, ⟨zK BK402⟩, ⟨zB HB⟩⟩
  ·rw [if_neg c19] at H
   have c19b0 : decide (0 < (t415.length : Int)) = false := decide_eq_false c19
   have c19b1 : decide (0 < t415.length) = false := decide_eq_false (by omega)
   clear c19
   (first | rw [c19b0] | (simp only [i64_w, i32_w]; rw [c19b0]) | skip)
   obtain ⟨t418, A24, H⟩ := bindS H
   have H' := Aside0.mk H
   clear H
   obtain ⟨Ao25, co25, eo25⟩ := Kd.R_slice HO414.out
   subst eo25
   obtain ⟨Ao26, co26, eo26⟩ := Kd.R_slice HO408.out
   subst eo26
   go_wp2_with (first | ((with_reducible refine gate_callee (f := 26) rfl ?_); refine goesL_ (some 28) rfl rfl Try.func26 (by kernel_rfl) rfl #[.slice Ao25 t412.length co25, .slice Ao26 t406.length co26] rfl zG ?_; (with_reducible refine (impl_without.calls k _ _ t412 _ _ t406 t415 _ ?side1 ?side2 ?side3 ?side4 A18.out).mono ?_); (case side1 => exact cU (Kd.R_reads' HO414.out).2.2); (case side2 => exact (Kd.R_reads' HO414.out).2.1); (case side3 => exact cU (Kd.R_reads' HO408.out).2.2); (case side4 => exact (Kd.R_reads' HO408.out).2.1); rintro e w27 ⟨v416, rfl, ho0, hb⟩; refine ⟨_, rfl, ?_⟩; have HO417 := Aside0.mk (Kd.R_lower (Kd.R_new' (Kd.R_new' (Kd.R_new' (Kd.R_new' ho0 (Kd.R_lt (zR HO405))) (Kd.R_lt (zR HO408))) (Kd.R_lt (zR HO411))) (Kd.R_lt (zR HO414))) (below_size (zB HB))); replace HO405 := Aside0.mk (Kd.R_elder' (zR HO405) (Kd.R_base ho0) hb); replace HO408 := Aside0.mk (Kd.R_elder' (zR HO408) (Kd.R_base ho0) hb); replace HO411 := Aside0.mk (Kd.R_elder' (zR HO411) (Kd.R_base ho0) hb); replace HO414 := Aside0.mk (Kd.R_elder' (zR HO414) (Kd.R_base ho0) hb); replace BK401 := kB BK401 hb; replace BK402 := kB BK402 hb; replace HB := bS HB hb; (try clear hb); (try clear ho0); obtain ⟨Ao28, co28, eo28⟩ := Kd.R_slice HO417.out; subst eo28; obtain ⟨Ao29, co29, eo29⟩ := Kd.R_slice HO405.out; subst eo29; obtain ⟨Ao30, co30, eo30⟩ := Kd.R_slice HO411.out; subst eo30) | (go_at_call 26; (with_reducible refine (impl_without.calls k _ _ t403 _ _ t409 t418 _ ?side1 ?side2 ?side3 ?side4 A24.out).mono ?_); (case side1 => exact cU (Kd.R_reads' HO405.out).2.2); (case side2 => exact (Kd.R_reads' HO405.out).2.1); (case side3 => exact cU (Kd.R_reads' HO411.out).2.2); (case side4 => exact (Kd.R_reads' HO411.out).2.1); rintro e w31 ⟨v419, rfl, ho0, hb⟩; have HO420 := Aside0.mk (Kd.R_lower (Kd.R_new' (Kd.R_new' (Kd.R_new' (Kd.R_new' (Kd.R_new' ho0 (Kd.R_lt (zR HO405))) (Kd.R_lt (zR HO408))) (Kd.R_lt (zR HO411))) (Kd.R_lt (zR HO414))) (Kd.R_lt (zR HO417))) (below_size (zB HB))); replace HO405 := Aside0.mk (Kd.R_elder' (zR HO405) (Kd.R_base ho0) hb); replace HO408 := Aside0.mk (Kd.R_elder' (zR HO408) (Kd.R_base ho0) hb); replace HO411 := Aside0.mk (Kd.R_elder' (zR HO411) (Kd.R_base ho0) hb); replace HO414 := Aside0.mk (Kd.R_elder' (zR HO414) (Kd.R_base ho0) hb); replace HO417 := Aside0.mk (Kd.R_elder' (zR HO417) (Kd.R_base ho0) hb); replace BK401 := kB BK401 hb; replace BK402 := kB BK402 hb; replace HB := bS HB hb; (try clear hb); (try clear ho0); obtain ⟨Ao32, co32, eo32⟩ := Kd.R_slice HO420.out; subst eo32))
   go_meet
   case rel => exact ⟨_, (decide ((t418.length : Int) > 0)), zF, H', ⟨by first | omega | exact Nat.le_refl _⟩, ⟨by (with_reducible repeat (first | apply Kd.R_alloc | apply Kd.R_drewN | apply Kd.R_drew)); exact Kd.R_mono HO405.out (fun _ hk => ⟨hk.1.1.1.1.2, ⟨hk.1.1.1.2, hk.1.1.2⟩⟩)⟩, ⟨by (with_reducible repeat (first | apply Kd.R_alloc | apply Kd.R_drewN | apply Kd.R_drew)); exact Kd.R_mono HO408.out (fun _ hk => ⟨hk.1.1.1.1.2, ⟨hk.1.1.1.2, hk.1.1.2⟩⟩)⟩, ⟨by (with_reducible repeat (first | apply Kd.R_alloc | apply Kd.R_drewN | apply Kd.R_drew)); exact Kd.R_mono HO411.out (fun _ hk => ⟨hk.1.1.1.1.2, ⟨hk.1.1.1.2, hk.1.1.2⟩⟩)⟩, ⟨by (with_reducible repeat (first | apply Kd.R_alloc | apply Kd.R_drewN | apply Kd.R_drew)); exact Kd.R_mono HO414.out (fun _ hk => ⟨hk.1.1.1.1.2, ⟨hk.1.1.1.2, hk.1.1.2⟩⟩)⟩, ⟨zK BK401⟩, ⟨zK BK402⟩, ⟨zB HB⟩⟩
 case rest =>
  clear HC9
  try clear c1
  try clear c2
  try clear p2
  try clear c3
  try clear c19
  try clear c19b0
  try clear c19b1
  try clear c26
  try clear c27
  obtain ⟨kq, x25_8, rfl, HA, HJ8, HO_9, HO_10, HO_11, HO_12, BK401, BK402, HB⟩ := hcut
  cases kq with
  | zero => exact absurd HA.out (by simp [impl_FollowsAt.j0])
  | succ kj8 =>
   have H := HA.out
   clear HA
   simp only [impl_FollowsAt.j0] at H
   by_cases c33 : x25_8 = true
   ·subst c33
    have H1 : (some false) = some r := by rw [if_pos rfl] at H; exact H
    clear H
    have H := H1
    clear H1
    obtain rfl := Option.some.inj H
    go_wp2
    go_ret
    exact ⟨zE, zB HB⟩
   ·replace c33 := Bool.eq_false_iff.mpr c33
    subst c33
    have H1 : (if ((decide ((t409.length : Int) > 0)) != (decide ((t403.length : Int) > 0))) = true then (impl_FollowsAt.j1 kj8 a2 a3 true a0_0 l0_1 l0_2 a1_0 l1_1 l1_2) else (if (t412.length : Int) = 0 then (impl_FollowsAt.j1 kj8 a2 a3 (decide ((t406.length : Int) > 0)) a0_0 l0_1 l0_2 a1_0 l1_1 l1_2) else (impl_FollowsAt.j1 kj8 a2 a3 false a0_0 l0_1 l0_2 a1_0 l1_1 l1_2))) = some r := by rw [if_neg (show ¬ (false = true) by decide)] at H; exact H
    clear H
    have H := H1
    clear H1
    have HC34 := Aside0.mk H
    clear H
    go_upto_region 5 with (fail)
    go_cut [38] (fun v38 wc => ∃ (kq : Nat) (x38_33 : Bool), v38 = .bool x38_33 ∧ Aside0 (impl_FollowsAt.j1 kq a2 a3 x38_33 a0_0 l0_1 l0_2 a1_0 l1_1 l1_2 = some r) ∧ Aside0 (kq ≤ kj8) ∧ Aside0 (wc.heap[gb401]? = some (.cells #[.int .i64 a0_0, (.slice A0_1 l0_1.length c0_1), (.slice A0_2 l0_2.length c0_2)] 27 (0, 0))) ∧ Aside0 (wc.heap[gb402]? = some (.cells #[.int .i64 a1_0, (.slice A1_1 l1_1.length c1_1), (.slice A1_2 l1_2.length c1_2)] 27 (0, 0))) ∧ Aside0 (Below w.heap.size w wc))
    case first =>
     have H := HC34.out
     clear HC34
     by_cases c35 : ((decide ((t409.length : Int) > 0)) != (decide ((t403.length : Int) > 0))) = true
     ·rw [if_pos c35] at H
      have c35b4 : ¬ (0 < t409.length ↔ 0 < t403.length) := fun q_ => by rw [show decide ((t409.length : Int) > 0) = decide ((t403.length : Int) > 0) from decide_eq_decide.2 (by omega)] at c35; simp at c35
      have c35b0 : ((decide ((t409.length : Int) > 0)) != (decide ((t403.length : Int) > 0))) = true := c35
      (try (have c35b1 : decide ((decide ((t409.length : Int) > 0)) = (decide ((t403.length : Int) > 0))) = false := by simpa using c35))
      (try (have c35b2 : ((decide ((t409.length : Int) > 0)) == (decide ((t403.length : Int) > 0))) = false := by simpa using c35))
      (try (have c35b3 : ¬ ((decide ((t409.length : Int) > 0)) = (decide ((t403.length : Int) > 0))) := by simpa using c35))
      clear c35
      (first | rw [c35b0] | (simp only [i64_w, i32_w]; rw [c35b0]) | skip)
      have H' := Aside0.mk H
      clear H
      obtain ⟨Ao36, co36, eo36⟩ := Kd.R_slice HO_11.out
      subst eo36
      obtain ⟨Ao37, co37, eo37⟩ := Kd.R_slice HO_9.out
      subst eo37
      go_wp2
      go_meet
      case rel => exact ⟨_, (true), zF, H', ⟨by have := HJ8.out; first | omega | exact Nat.le_refl _⟩, ⟨zK BK401⟩, ⟨zK BK402⟩, ⟨zB HB⟩⟩
     ·rw [if_neg c35] at H
      have c35b4 : (0 < t409.length ↔ 0 < t403.length) := by have h_ := decide_eq_decide.1 (show decide ((t409.length : Int) > 0) = decide ((t403.length : Int) > 0) from by simpa [bne] using c35); omega
      have c35b0 : ((decide ((t409.length : Int) > 0)) != (decide ((t403.length : Int) > 0))) = false := by simpa using c35
      (try (have c35b1 : decide ((decide ((t409.length : Int) > 0)) = (decide ((t403.length : Int) > 0))) = true := by simpa using c35))
      (try (have c35b2 : ((decide ((t409.length : Int) > 0)) == (decide ((t403.length : Int) > 0))) = true := by simpa using c35))
      clear c35
      (first | rw [c35b0] | (simp only [i64_w, i32_w]; rw [c35b0]) | skip)
      by_cases c38 : (t412.length : Int) = 0
      ·rw [if_pos c38] at H
       have c38b0 : ((t412.length : Int) == 0) = true := beq_iff_eq.mpr c38
       have c38b1 : ((t412.length : Int) != 0) = false := bne_eq_false_iff_eq.mpr c38
       clear c38
       have H' := Aside0.mk H
       clear H
       obtain ⟨Ao39, co39, eo39⟩ := Kd.R_slice HO_11.out
       subst eo39
       obtain ⟨Ao40, co40, eo40⟩ := Kd.R_slice HO_9.out
       subst eo40
       obtain ⟨Ao41, co41, eo41⟩ := Kd.R_slice HO_12.out
       subst eo41
       obtain ⟨Ao42, co42, eo42⟩ := Kd.R_slice HO_10.out
       subst eo42
       go_wp2
       go_meet
       case rel => exact ⟨_, (decide ((t406.length : Int) > 0)), zF, H', ⟨by have := HJ8.out; first | omega | exact Nat.le_refl _⟩, ⟨zK BK401⟩, ⟨zK BK402⟩, ⟨zB HB⟩⟩
      ·rw [if_neg c38] at H
       have c38b0 : ((t412.length : Int) == 0) = false := beq_eq_false_iff_ne.mpr c38
       have c38b1 : ((t412.length : Int) != 0) = true := bne_iff_ne.mpr c38
       have c38b2 : ¬ (t412 = []) := fun h_ => c38 (by rw [h_]; rfl)
       have H' := Aside0.mk H
       clear H
       obtain ⟨Ao43, co43, eo43⟩ := Kd.R_slice HO_11.out
       subst eo43
       obtain ⟨Ao44, co44, eo44⟩ := Kd.R_slice HO_9.out
       subst eo44
       obtain ⟨Ao45, co45, eo45⟩ := Kd.R_slice HO_12.out
       subst eo45
       go_wp2
       go_meet
       case rel => exact ⟨_, (false), zF, H', ⟨by have := HJ8.out; first | omega | exact Nat.le_refl _⟩, ⟨zK BK401⟩, ⟨zK BK402⟩, ⟨zB HB⟩⟩
    case rest =>
     clear HC34
     try clear c1
     try clear c2
     try clear p2
     try clear c3
     try clear c19
     try clear c19b0
     try clear c19b1
     try clear c26
     try clear c27
     try clear c33
     try clear c35
     try clear c35b0
     try clear c35b1
     try clear c35b2
     try clear c37
     try clear c38
     try clear c38b0
     try clear c38b1
     try clear c38b2
     try clear p2
     obtain ⟨kq, x38_33, rfl, HA, HJ33, BK401, BK402, HB⟩ := hcut
     cases kq with
     | zero => exact absurd HA.out (by simp [impl_FollowsAt.j1])
     | succ kj33 =>
      have H := HA.out
      clear HA
      simp only [impl_FollowsAt.j1] at H
      by_cases c46 : x38_33 = true
      ·subst c46
       have H1 : (some false) = some r := by rw [if_pos rfl] at H; exact H
       clear H
       have H := H1
       clear H1
       obtain rfl := Option.some.inj H
       go_wp2
       go_ret
       exact ⟨zE, zB HB⟩
      ·replace c46 := Bool.eq_false_iff.mpr c46
       subst c46
       have H1 : ((impl_isEnd.f a0_0 l0_1 l0_2 a2).bind fun t421 => (if t421 = true then (some true) else ((impl_isEnd.f a1_0 l1_1 l1_2 a3).bind fun t422 => (some (!t422))))) = some r := by rw [if_neg (show ¬ (false = true) by decide)] at H; exact H
       clear H
       have H := H1
       clear H1
       obtain ⟨t421, A47, H⟩ := bindS H
       by_cases c48 : t421 = true
       ·subst c48
        have H1 : (some true) = some r := by rw [if_pos rfl] at H; exact H
        clear H
        have H := H1
        clear H1
        obtain rfl := Option.some.inj H
        have hnb49 := NB401_402.out
        have hnc49 := NB402_401.out
        obtain ⟨hcz50_0, hcz50_1, hcz50_2, hfz50_0, hfz50_1, hfz50_2⟩ := bq3 BK401
        go_wp2_with (first | ((with_reducible refine gate_callee (f := 28) rfl ?_); refine goesL_ (some 58) rfl rfl Try.func28 (by kernel_rfl) rfl #[.agg #[.int .i64 a0_0, .slice A0_1 l0_1.length c0_1, .slice A0_2 l0_2.length c0_2], .int .i64 a2] rfl zG ?_; (with_reducible refine (impl_isEnd.calls a0_0 _ _ l0_1 _ _ l0_2 a2 true _ ?side1 ?side2 ?side3 ?side4 A47.out).mono ?_); (case side1 => exact cS HR0_1 HB); (case side2 => exact HC0_1.out); (case side3 => exact cS HR0_2 HB); (case side4 => exact HC0_2.out); rintro e w51 ⟨rfl, hb⟩; refine ⟨_, rfl, ?_⟩; replace BK401 := kB BK401 hb; replace BK402 := kB BK402 hb; replace HB := bS HB hb; (try clear hb)))
        go_ret
        exact ⟨zE, zB HB⟩
       ·replace c48 := Bool.eq_false_iff.mpr c48
        subst c48
        have H1 : ((impl_isEnd.f a1_0 l1_1 l1_2 a3).bind fun t422 => (some (!t422))) = some r := by rw [if_neg (show ¬ (false = true) by decide)] at H; exact H
        clear H
        have H := H1
        clear H1
        obtain ⟨t422, A52, H⟩ := bindS H
        obtain rfl := Option.some.inj H
        have hnb53 := NB401_402.out
        have hnc53 := NB402_401.out
        obtain ⟨hcz54_0, hcz54_1, hcz54_2, hfz54_0, hfz54_1, hfz54_2⟩ := bq3 BK401
        go_wp2_with (first | ((with_reducible refine gate_callee (f := 28) rfl ?_); refine goesL_ (some 58) rfl rfl Try.func28 (by kernel_rfl) rfl #[.agg #[.int .i64 a0_0, .slice A0_1 l0_1.length c0_1, .slice A0_2 l0_2.length c0_2], .int .i64 a2] rfl zG ?_; (with_reducible refine (impl_isEnd.calls a0_0 _ _ l0_1 _ _ l0_2 a2 false _ ?side1 ?side2 ?side3 ?side4 A47.out).mono ?_); (case side1 => exact cS HR0_1 HB); (case side2 => exact HC0_1.out); (case side3 => exact cS HR0_2 HB); (case side4 => exact HC0_2.out); rintro e w55 ⟨rfl, hb⟩; refine ⟨_, rfl, ?_⟩; replace BK401 := kB BK401 hb; replace BK402 := kB BK402 hb; replace HB := bS HB hb; (try clear hb); obtain ⟨hcz56_0, hcz56_1, hcz56_2, hfz56_0, hfz56_1, hfz56_2⟩ := bq3 BK402) | (go_at_call 28; (with_reducible refine (impl_isEnd.calls a1_0 _ _ l1_1 _ _ l1_2 a3 t422 _ ?side1 ?side2 ?side3 ?side4 A52.out).mono ?_); (case side1 => exact cS HR1_1 HB); (case side2 => exact HC1_1.out); (case side3 => exact cS HR1_2 HB); (case side4 => exact HC1_2.out); rintro e w57 ⟨rfl, hb⟩; replace BK401 := kB BK401 hb; replace BK402 := kB BK402 hb; replace HB := bS HB hb; (try clear hb)))
        go_ret
        exact ⟨zE, zB HB⟩

end Go.Proofs.Ytfibjclnaeocbaa.PFnChain
