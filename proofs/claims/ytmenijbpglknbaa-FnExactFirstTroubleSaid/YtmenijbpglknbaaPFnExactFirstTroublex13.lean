-- WRITTEN by pp.py, this session's own wrapper around the print; not trusted: Lean checks it
import Derived.Test.YtmenijbpglknbaaPFnExactFirstTroublex0
import Derived.Test.YtmenijbpglknbaaPFnExactFirstTroublex10
import Derived.Test.YtmenijbpglknbaaPFnExactFirstTroublex11
import Derived.Test.YtmenijbpglknbaaPFnExactFirstTroublex12
namespace Go.Proofs.Ytmenijbpglknbaa.PFnExactFirstTrouble
open Go.RowKit Go.Proofs.Ytmenijbpglknbaa.Hw Go.Proofs.YtmenijbpglknbaaW.PrintWords Go.Proofs.YtmenijbpglknbaaW.PrintLast Go.Proofs.YtmenijbpglknbaaW.PrintMore
attribute [local go_sem] max2_int min2_int max_two min_two max_three min_three max_four min_four   -- for this text's walks alone
set_option linter.unusedVariables false
set_option linter.unusedSimpArgs false
set_option linter.unusedSectionVars false

/-! ### impl_TroubleAt: function 54 -/
def impl_TroubleAt.j0 : Nat → Int → Int → Bool → Int → List Bool → List (S64) → Int → List Bool → List (S64) → Option (Int)
 | 0, _, _, _, _, _, _, _, _, _ => none
 | k + 1, x2, x3, x9, x401000, x401001, x401002, x402000, x402001, x402002 => if x9 = true then (some 1) else ((impl_NextPairs.f k x401000 x401001 x401002 x402000 x402001 x402002 x2 x3).bind fun t420 => (if (t420.length : Int) = 0 then ((impl_isEnd.f x401000 x401001 x401002 x2).bind fun t423 => (if t423 = true then ((impl_isEnd.f x402000 x402001 x402002 x3).bind fun t424 => (if t424 = true then (some 0) else (some 2))) else (some 2))) else (some 0)))
def impl_TroubleAt.f (k : Nat) (a0_0 : Int) (l0_1 : List Bool) (l0_2 : List (S64)) (a1_0 : Int) (l1_1 : List Bool) (l1_2 : List (S64)) (a2 : Int) (a3 : Int) : Option (Int) := (impl_MovesFrom.f k a0_0 l0_1 l0_2 a2 true).bind fun t402 => ((impl_MovesFrom.f k a1_0 l1_1 l1_2 a3 false).bind fun t405 => ((impl_without.f k t402 t405).bind fun t408 => (if (t408.length : Int) > 0 then (impl_TroubleAt.j0 k a2 a3 true a0_0 l0_1 l0_2 a1_0 l1_1 l1_2) else ((impl_MovesFrom.f k a1_0 l1_1 l1_2 a3 true).bind fun t411 => ((impl_MovesFrom.f k a0_0 l0_1 l0_2 a2 false).bind fun t414 => ((impl_without.f k t411 t414).bind fun t417 => (impl_TroubleAt.j0 k a2 a3 (decide ((t417.length : Int) > 0)) a0_0 l0_1 l0_2 a1_0 l1_1 l1_2)))))))
theorem impl_TroubleAt.mono_l : ∀ k, (∀ y0 y1 y2 y3 y4 y5 y6 y7 y8, LeO (impl_TroubleAt.j0 k y0 y1 y2 y3 y4 y5 y6 y7 y8) (impl_TroubleAt.j0 (k + 1) y0 y1 y2 y3 y4 y5 y6 y7 y8))
 | 0 => fun _ _ _ _ _ _ _ _ _ r h => by simp [impl_TroubleAt.j0] at h
 | k + 1 => by
  have ih0 := impl_TroubleAt.mono_l k
  ·intro y0 y1 y2 y3 y4 y5 y6 y7 y8
   unfold impl_TroubleAt.j0
   repeat' first
   | (with_reducible exact ih0 _ _ _ _ _ _ _ _ _)
   | (with_reducible exact impl_MovesFrom.mono _ _ _ _ _ _)
   | (with_reducible exact impl_NextPairs.mono _ _ _ _ _ _ _ _ _)
   | (with_reducible exact impl_without.mono _ _ _)
   | (with_reducible exact LeO.refl _)
   | (with_reducible exact LeO.none _)
   | (with_reducible refine LeO.ite ?_ ?_)
   | (with_reducible refine LeO.bind ?_ (fun _ => ?_))
   | exact ih0 _ _ _ _ _ _ _ _ _
   | exact impl_MovesFrom.mono _ _ _ _ _ _
   | exact impl_NextPairs.mono _ _ _ _ _ _ _ _ _
   | exact impl_without.mono _ _ _
   | exact LeO.none _
   | refine LeO.ite ?_ ?_
   | refine LeO.bind ?_ (fun _ => ?_)
theorem impl_TroubleAt.mono : ∀ a0 a1 a2 a3 a4 a5 a6 a7 k, LeO (impl_TroubleAt.f k a0 a1 a2 a3 a4 a5 a6 a7) (impl_TroubleAt.f (k + 1) a0 a1 a2 a3 a4 a5 a6 a7) := by
 intro a0 a1 a2 a3 a4 a5 a6 a7 k
 have ih0 := impl_TroubleAt.mono_l k
 unfold impl_TroubleAt.f
 repeat' first
   | (with_reducible exact ih0 _ _ _ _ _ _ _ _ _)
   | (with_reducible exact impl_MovesFrom.mono _ _ _ _ _ _)
   | (with_reducible exact impl_NextPairs.mono _ _ _ _ _ _ _ _ _)
   | (with_reducible exact impl_without.mono _ _ _)
   | (with_reducible exact LeO.refl _)
   | (with_reducible exact LeO.none _)
   | (with_reducible refine LeO.ite ?_ ?_)
   | (with_reducible refine LeO.bind ?_ (fun _ => ?_))
   | exact ih0 _ _ _ _ _ _ _ _ _
   | exact impl_MovesFrom.mono _ _ _ _ _ _
   | exact impl_NextPairs.mono _ _ _ _ _ _ _ _ _
   | exact impl_without.mono _ _ _
   | exact LeO.none _
   | refine LeO.ite ?_ ?_
   | refine LeO.bind ?_ (fun _ => ?_)
def impl_TroubleAt.T1 : Bool × List (List Nat × List Nat) := (true, [([], []), ([], []), ([0, 1], [0, 1]), ([], []), ([], []), ([3, 4, 2], [3, 4]), ([2, 5, 5], [2, 5]), ([6], [6]), ([7], [7]), ([8, 6], [8]), ([9], [9]), ([9], [9]), ([10, 11, 9, 9], [9, 10, 11]), ([9], [9]), ([9], [9]), ([13, 14, 12, 9], [9, 13, 14]), ([12, 15, 15, 9], [9, 12, 15]), ([16, 9], [9, 16]), ([17, 9], [9, 17]), ([9, 18], [9, 18]), ([19, 16], [19])])
def impl_TroubleAt.B1 : List Nat := [0, 0, 3, 0, 0, 31, 63, 127, 255, 511, 1023, 1023, 4095, 1023, 1023, 32767, 65535, 131071, 262143, 524287, 1048575]
theorem impl_TroubleAt.tab1 : rtab .any (opsOf Try.f54 1) = impl_TroubleAt.T1 := by kernel_rfl
theorem impl_TroubleAt.bits1 : waitsOk impl_TroubleAt.T1.2 impl_TroubleAt.B1 = true := by kernel_rfl
set_option maxHeartbeats 8000000 in
set_option maxRecDepth 100000 in
theorem impl_TroubleAt.calls (k : Nat) (a0_0 : Int) (A0_1 : Option Addr) (c0_1 : Nat) (l0_1 : List Bool) (A0_2 : Option Addr) (c0_2 : Nat) (l0_2 : List (S64)) (a1_0 : Int) (A1_1 : Option Addr) (c1_1 : Nat) (l1_1 : List Bool) (A1_2 : Option Addr) (c1_2 : Nat) (l1_2 : List (S64)) (a2 : Int) (a3 : Int) (r : Int) (w : World) (hr0_1 : Kd.C Kd.bool w A0_1 l0_1.length l0_1) (hc0_1 : l0_1.length ≤ c0_1) (hr0_2 : Kd.C k64 w A0_2 l0_2.length l0_2) (hc0_2 : l0_2.length ≤ c0_2) (hr1_1 : Kd.C Kd.bool w A1_1 l1_1.length l1_1) (hc1_1 : l1_1.length ≤ c1_1) (hr1_2 : Kd.C k64 w A1_2 l1_2.length l1_2) (hc1_2 : l1_2.length ≤ c1_2) (h : impl_TroubleAt.f k a0_0 l0_1 l0_2 a1_0 l1_1 l1_2 a2 a3 = some r) :
  Calls Try.prog 54 #[.agg #[.int .i64 a0_0, .slice A0_1 l0_1.length c0_1, .slice A0_2 l0_2.length c0_2], .agg #[.int .i64 a1_0, .slice A1_1 l1_1.length c1_1, .slice A1_2 l1_2.length c1_2], .int .i64 a2, .int .i64 a3] w fun e w' => e = .returned (.int .i64 r) ∧ Below w.heap.size w w' := by
 have hu31 := Try.underlying31
 have HR0_1 := Aside0.mk hr0_1
 have HC0_1 := Aside0.mk hc0_1
 clear hr0_1 hc0_1
 have HR0_2 := Aside0.mk hr0_2
 have HC0_2 := Aside0.mk hc0_2
 clear hr0_2 hc0_2
 have HR1_1 := Aside0.mk hr1_1
 have HC1_1 := Aside0.mk hc1_1
 clear hr1_1 hc1_1
 have HR1_2 := Aside0.mk hr1_2
 have HC1_2 := Aside0.mk hc1_2
 clear hr1_2 hc1_2
 have HB := Aside0.mk (Below.refl w.heap.size w)
 have H : ((impl_MovesFrom.f k a0_0 l0_1 l0_2 a2 true).bind fun t402 => ((impl_MovesFrom.f k a1_0 l1_1 l1_2 a3 false).bind fun t405 => ((impl_without.f k t402 t405).bind fun t408 => (if (t408.length : Int) > 0 then (impl_TroubleAt.j0 k a2 a3 true a0_0 l0_1 l0_2 a1_0 l1_1 l1_2) else ((impl_MovesFrom.f k a1_0 l1_1 l1_2 a3 true).bind fun t411 => ((impl_MovesFrom.f k a0_0 l0_1 l0_2 a2 false).bind fun t414 => ((impl_without.f k t411 t414).bind fun t417 => (impl_TroubleAt.j0 k a2 a3 (decide ((t417.length : Int) > 0)) a0_0 l0_1 l0_2 a1_0 l1_1 l1_2)))))))) = some r := h
 clear h
 have HC5 := Aside0.mk H
 clear H
 go_enter Try.func54, Try.ntmps54
 go_upto_region 1 with (first | ((with_reducible refine gate_dst (N := 4) rfl ?_); (try (refine gate_guard (by rfl) ?_; dsimp only)); refine box_event ?hg (N := 4) ?hd (cs := #[.int .i64 a0_0, .slice A0_1 l0_1.length c0_1, .slice A0_2 l0_2.length c0_2]) (t := 31) ?hr ?_; (case hd => rfl); (case hg => rfl); (case hr => first | (go_simp; done) | (go_simp; rfl)); intro gb400 hg w6 hbox hb; have BK400 := Aside0.mk (hbox); have GW400 := gS HB hg; have GE400 := gS HB hg; replace HB := bS HB hb; clear hb hbox hg) | ((with_reducible refine gate_dst (N := 5) rfl ?_); (try (refine gate_guard (by rfl) ?_; dsimp only)); refine box_event ?hg (N := 5) ?hd (cs := #[.int .i64 a1_0, .slice A1_1 l1_1.length c1_1, .slice A1_2 l1_2.length c1_2]) (t := 31) ?hr ?_; (case hd => rfl); (case hg => rfl); (case hr => first | (go_simp; done) | (go_simp; rfl)); intro gb401 hg w7 hbox hb; have BK401 := Aside0.mk (hbox); have GW401 := gS HB hg; have GE401 := gS HB hg; replace HB := bS HB hb; have NB400_401 := nL BK400 hg; have NB401_400 := nR BK400 hg; replace BK400 := kB BK400 hb; clear hb hbox hg))
 (try simp only [Act.put, List.setIfInBounds_toArray, List.set_cons_zero, List.set_cons_succ])
 go_cut [9] (fun v9 wc => ∃ (kq : Nat) (x9_4 : Bool), v9 = .bool x9_4 ∧ Aside0 (impl_TroubleAt.j0 kq a2 a3 x9_4 a0_0 l0_1 l0_2 a1_0 l1_1 l1_2 = some r) ∧ Aside0 (kq ≤ k) ∧ Aside0 (wc.heap[gb400]? = some (.cells #[.int .i64 a0_0, (.slice A0_1 l0_1.length c0_1), (.slice A0_2 l0_2.length c0_2)] 31 (0, 0))) ∧ Aside0 (wc.heap[gb401]? = some (.cells #[.int .i64 a1_0, (.slice A1_1 l1_1.length c1_1), (.slice A1_2 l1_2.length c1_2)] 31 (0, 0))) ∧ Aside0 (Below w.heap.size w wc))
 case first =>
  have H := HC5.out
  clear HC5
  obtain ⟨t402, A8, H⟩ := bindS H
  obtain ⟨t405, A9, H⟩ := bindS H
  obtain ⟨t408, A10, H⟩ := bindS H
  by_cases c11 : (t408.length : Int) > 0
  ·rw [if_pos c11] at H
   have c11b0 : decide (0 < (t408.length : Int)) = true := decide_eq_true c11
   have c11b1 : decide (0 < t408.length) = true := decide_eq_true (by omega)
   clear c11
   (first | rw [c11b0] | (simp only [i64_w, i32_w]; rw [c11b0]) | skip)
   have H' := Aside0.mk H
   clear H
   try go_wp2
   replace BK400 := Aside0.mk (blk_drew BK400.out)
   replace BK401 := Aside0.mk (blk_drew BK401.out)
   replace HB := Aside0.mk (below_drew1 HB.out)
   refine start_ (n := 21) (S := fun w' => w'.cell? ⟨gb400, 0, none⟩ = some (.int .i64 a0_0) ∧ w'.cell? ⟨gb400, 1, none⟩ = some (.slice A0_1 l0_1.length c0_1) ∧ w'.cell? ⟨gb400, 2, none⟩ = some (.slice A0_2 l0_2.length c0_2) ∧ w'.cell? ⟨gb401, 0, none⟩ = some (.int .i64 a1_0) ∧ w'.cell? ⟨gb401, 1, none⟩ = some (.slice A1_1 l1_1.length c1_1) ∧ w'.cell? ⟨gb401, 2, none⟩ = some (.slice A1_2 l1_2.length c1_2)) (ds := []) (bm 21 0) (by kernel_rfl) rfl (bm0 _) ⟨bc0 BK400, bc1 BK400, bc2 BK400, bc0 BK401, bc1 BK401, bc2 BK401⟩ (fun hHeld => ?_); refine with_tabW impl_TroubleAt.tab1 impl_TroubleAt.bits1 (fun HT_ HW_ => ?_)
   generalize w7.drew = w12 at BK400 BK401 HB hHeld ⊢
   refine pU 1 (some 11) (bm 21 2) HT_ rfl rfl ?_
   refine pU 4 (some 14) (bm 21 18) HT_ rfl rfl ?_
   refine tU 0 (some 10) (bm 21 19) HT_ HW_ rfl rfl hHeld ?_
   refine tU 3 (some 13) (bm 21 27) HT_ HW_ rfl rfl hHeld ?_
   refine one_ (i := 2) (N := some 12) (bm 21 31) rfl rfl (one_of HT_.out (by kernel_rfl)) (by decide) (fun K hK => ?_)
   refine goes_ Try.func64 (by kernel_rfl) rfl #[.agg #[.int .i64 a0_0, .slice A0_1 l0_1.length c0_1, .slice A0_2 l0_2.length c0_2], .int .i64 a2, .bool true] (by rfl) rfl rfl zG ?_
   with_reducible refine (impl_MovesFrom.calls k a0_0 _ _ l0_1 _ _ l0_2 a2 true t402 _ ?side1 ?side2 ?side3 ?side4 A8.out).mono ?_
   (case side1 => exact cS HR0_1 HB)
   (case side2 => exact HC0_1.out)
   (case side3 => exact cS HR0_2 HB)
   (case side4 => exact HC0_2.out)
   rintro e w13 ⟨v403, rfl, ho0, hb⟩
   refine ⟨_, rfl, ?_⟩
   have HO404 := Aside0.mk (Kd.R_lower ho0 (below_size (zB HB)))
   replace BK400 := kB BK400 hb
   replace BK401 := kB BK401 hb
   replace HB := bS HB hb
   (try clear hb)
   (try clear hb2)
   (try clear hk)
   (try clear hi)
   (try clear ho0)
   refine hK.out _ _ ⟨bc0 BK400, bc1 BK400, bc2 BK400, bc0 BK401, bc1 BK401, bc2 BK401⟩ (fun hHeld => ?_)
   clear hK K
   refine norm_ (a' := ?_) ?_ ?_
   rotate_left
   ·show Act.put _ (some 12) _ = _
    simp only [Act.put, List.setIfInBounds_toArray, List.set_cons_zero, List.set_cons_succ, i64_w, i32_w]
    rfl
   refine one_ (i := 5) (N := some 15) (bm 21 63) rfl rfl (one_of HT_.out (by kernel_rfl)) (by decide) (fun K hK => ?_)
   refine goes_ Try.func64 (by kernel_rfl) rfl #[.agg #[.int .i64 a1_0, .slice A1_1 l1_1.length c1_1, .slice A1_2 l1_2.length c1_2], .int .i64 a3, .bool false] (by rfl) rfl rfl zG ?_
   with_reducible refine (impl_MovesFrom.calls k a1_0 _ _ l1_1 _ _ l1_2 a3 false t405 _ ?side1 ?side2 ?side3 ?side4 A9.out).mono ?_
   (case side1 => exact cS HR1_1 HB)
   (case side2 => exact HC1_1.out)
   (case side3 => exact cS HR1_2 HB)
   (case side4 => exact HC1_2.out)
   rintro e w14 ⟨v406, rfl, ho0, hb⟩
   refine ⟨_, rfl, ?_⟩
   have HO407 := Aside0.mk (Kd.R_lower (Kd.R_new' ho0 (Kd.R_lt (zR HO404))) (below_size (zB HB)))
   replace HO404 := Aside0.mk (Kd.R_elder' (zR HO404) (Kd.R_base ho0) hb)
   replace BK400 := kB BK400 hb
   replace BK401 := kB BK401 hb
   replace HB := bS HB hb
   (try clear hb)
   (try clear hb2)
   (try clear hk)
   (try clear hi)
   (try clear ho0)
   obtain ⟨Ao15, co15, eo15⟩ := Kd.R_slice HO404.out
   (first | subst eo15 | (injection eo15 with f1_ f2_ f3_; have f4_ := f1_.symm; have f5_ := f3_.symm; clear f1_ f2_ f3_; subst f4_; subst f5_))
   obtain ⟨Ao16, co16, eo16⟩ := Kd.R_slice HO407.out
   (first | subst eo16 | (injection eo16 with f1_ f2_ f3_; have f4_ := f1_.symm; have f5_ := f3_.symm; clear f1_ f2_ f3_; subst f4_; subst f5_))
   refine hK.out _ _ ⟨bc0 BK400, bc1 BK400, bc2 BK400, bc0 BK401, bc1 BK401, bc2 BK401⟩ (fun hHeld => ?_)
   clear hK K
   refine norm_ (a' := ?_) ?_ ?_
   rotate_left
   ·show Act.put _ (some 15) _ = _
    simp only [Act.put, List.setIfInBounds_toArray, List.set_cons_zero, List.set_cons_succ, i64_w, i32_w]
    rfl
   refine one_ (i := 6) (N := some 16) (bm 21 127) rfl rfl (one_of HT_.out (by kernel_rfl)) (by decide) (fun K hK => ?_)
   refine goes_ Try.func70 (by kernel_rfl) rfl #[.slice Ao15 t402.length co15, .slice Ao16 t405.length co16] (by rfl) rfl rfl zG ?_
   with_reducible refine (impl_without.calls k _ _ t402 _ _ t405 t408 _ ?side1 ?side2 ?side3 ?side4 A10.out).mono ?_
   (case side1 => repeat (first | exact (Kd.R_reads' HO404.out).2.2 | (with_reducible refine Kd.C_alloc ?_ _) | (with_reducible refine Kd.C_drewN ?_ _) | (with_reducible refine Kd.C_drew ?_)))
   (case side2 => exact (Kd.R_reads' HO404.out).2.1)
   (case side3 => repeat (first | exact (Kd.R_reads' HO407.out).2.2 | (with_reducible refine Kd.C_alloc ?_ _) | (with_reducible refine Kd.C_drewN ?_ _) | (with_reducible refine Kd.C_drew ?_)))
   (case side4 => exact (Kd.R_reads' HO407.out).2.1)
   rintro e w17 ⟨v409, rfl, ho0, hb⟩
   refine ⟨_, rfl, ?_⟩
   have HO410 := Aside0.mk (Kd.R_lower (Kd.R_new' (Kd.R_new' ho0 (Kd.R_lt (zR HO404))) (Kd.R_lt (zR HO407))) (below_size (zB HB)))
   replace HO404 := Aside0.mk (Kd.R_elder' (zR HO404) (Kd.R_base ho0) hb)
   replace HO407 := Aside0.mk (Kd.R_elder' (zR HO407) (Kd.R_base ho0) hb)
   replace BK400 := kB BK400 hb
   replace BK401 := kB BK401 hb
   replace HB := bS HB hb
   (try clear hb)
   (try clear hb2)
   (try clear hk)
   (try clear hi)
   (try clear ho0)
   obtain ⟨Ao18, co18, eo18⟩ := Kd.R_slice HO410.out
   (first | subst eo18 | (injection eo18 with f1_ f2_ f3_; have f4_ := f1_.symm; have f5_ := f3_.symm; clear f1_ f2_ f3_; subst f4_; subst f5_))
   refine hK.out _ _ ⟨bc0 BK400, bc1 BK400, bc2 BK400, bc0 BK401, bc1 BK401, bc2 BK401⟩ (fun hHeld => ?_)
   clear hK K
   refine norm_ (a' := ?_) ?_ ?_
   rotate_left
   ·show Act.put _ (some 16) _ = _
    simp only [Act.put, List.setIfInBounds_toArray, List.set_cons_zero, List.set_cons_succ, i64_w, i32_w]
    rfl
   refine pU 7 (some 17) (bm 21 255) HT_ rfl rfl ?_
   refine pU 8 (some 18) (bm 21 511) HT_ rfl rfl ?_
   refine pU 9 (some 19) (bm 21 1023) HT_ rfl rfl ?_
   refine pV 10 (some 20) (bm 21 2047) HT_ rfl rfl ?_
   refine pV 11 (some 21) (bm 21 4095) HT_ rfl rfl ?_
   refine pV 12 (some 22) (bm 21 8191) HT_ rfl rfl ?_
   refine pV 13 (some 23) (bm 21 16383) HT_ rfl rfl ?_
   refine pV 14 (some 24) (bm 21 32767) HT_ rfl rfl ?_
   refine pV 15 (some 25) (bm 21 65535) HT_ rfl rfl ?_
   refine pV 16 (some 26) (bm 21 131071) HT_ rfl rfl ?_
   refine pV 17 (some 27) (bm 21 262143) HT_ rfl rfl ?_
   refine pV 18 (some 28) (bm 21 524287) HT_ rfl rfl ?_
   refine pU 19 (some 29) (bm 21 1048575) HT_ rfl rfl ?_
   refine pU 20 (some 9) (bm 21 2097151) HT_ rfl rfl ?_
   refine done_ (done_of HT_.out (by kernel_rfl)) ?_
   try clear hHeld
   try go_wp2
   go_meet
   case rel => exact ⟨_, (true), zF, H', ⟨by first | omega | exact Nat.le_refl _⟩, ⟨zK BK400⟩, ⟨zK BK401⟩, ⟨zB HB⟩⟩
  ·rw [if_neg c11] at H
   have c11b0 : decide (0 < (t408.length : Int)) = false := decide_eq_false c11
   have c11b1 : decide (0 < t408.length) = false := decide_eq_false (by omega)
   clear c11
   (first | rw [c11b0] | (simp only [i64_w, i32_w]; rw [c11b0]) | skip)
   obtain ⟨t411, A19, H⟩ := bindS H
   obtain ⟨t414, A20, H⟩ := bindS H
   obtain ⟨t417, A21, H⟩ := bindS H
   have H' := Aside0.mk H
   clear H
   try go_wp2
   replace BK400 := Aside0.mk (blk_drew BK400.out)
   replace BK401 := Aside0.mk (blk_drew BK401.out)
   replace HB := Aside0.mk (below_drew1 HB.out)
   refine start_ (n := 21) (S := fun w' => w'.cell? ⟨gb400, 0, none⟩ = some (.int .i64 a0_0) ∧ w'.cell? ⟨gb400, 1, none⟩ = some (.slice A0_1 l0_1.length c0_1) ∧ w'.cell? ⟨gb400, 2, none⟩ = some (.slice A0_2 l0_2.length c0_2) ∧ w'.cell? ⟨gb401, 0, none⟩ = some (.int .i64 a1_0) ∧ w'.cell? ⟨gb401, 1, none⟩ = some (.slice A1_1 l1_1.length c1_1) ∧ w'.cell? ⟨gb401, 2, none⟩ = some (.slice A1_2 l1_2.length c1_2)) (ds := []) (bm 21 0) (by kernel_rfl) rfl (bm0 _) ⟨bc0 BK400, bc1 BK400, bc2 BK400, bc0 BK401, bc1 BK401, bc2 BK401⟩ (fun hHeld => ?_); refine with_tabW impl_TroubleAt.tab1 impl_TroubleAt.bits1 (fun HT_ HW_ => ?_)
   generalize w7.drew = w22 at BK400 BK401 HB hHeld ⊢
   refine pU 1 (some 11) (bm 21 2) HT_ rfl rfl ?_
   refine pU 4 (some 14) (bm 21 18) HT_ rfl rfl ?_
   refine tU 0 (some 10) (bm 21 19) HT_ HW_ rfl rfl hHeld ?_
   refine tU 3 (some 13) (bm 21 27) HT_ HW_ rfl rfl hHeld ?_
   refine one_ (i := 2) (N := some 12) (bm 21 31) rfl rfl (one_of HT_.out (by kernel_rfl)) (by decide) (fun K hK => ?_)
   refine goes_ Try.func64 (by kernel_rfl) rfl #[.agg #[.int .i64 a0_0, .slice A0_1 l0_1.length c0_1, .slice A0_2 l0_2.length c0_2], .int .i64 a2, .bool true] (by rfl) rfl rfl zG ?_
   with_reducible refine (impl_MovesFrom.calls k a0_0 _ _ l0_1 _ _ l0_2 a2 true t402 _ ?side1 ?side2 ?side3 ?side4 A8.out).mono ?_
   (case side1 => exact cS HR0_1 HB)
   (case side2 => exact HC0_1.out)
   (case side3 => exact cS HR0_2 HB)
   (case side4 => exact HC0_2.out)
   rintro e w23 ⟨v403, rfl, ho0, hb⟩
   refine ⟨_, rfl, ?_⟩
   have HO404 := Aside0.mk (Kd.R_lower ho0 (below_size (zB HB)))
   replace BK400 := kB BK400 hb
   replace BK401 := kB BK401 hb
   replace HB := bS HB hb
   (try clear hb)
   (try clear hb2)
   (try clear hk)
   (try clear hi)
   (try clear ho0)
   refine hK.out _ _ ⟨bc0 BK400, bc1 BK400, bc2 BK400, bc0 BK401, bc1 BK401, bc2 BK401⟩ (fun hHeld => ?_)
   clear hK K
   refine norm_ (a' := ?_) ?_ ?_
   rotate_left
   ·show Act.put _ (some 12) _ = _
    simp only [Act.put, List.setIfInBounds_toArray, List.set_cons_zero, List.set_cons_succ, i64_w, i32_w]
    rfl
   refine one_ (i := 5) (N := some 15) (bm 21 63) rfl rfl (one_of HT_.out (by kernel_rfl)) (by decide) (fun K hK => ?_)
   refine goes_ Try.func64 (by kernel_rfl) rfl #[.agg #[.int .i64 a1_0, .slice A1_1 l1_1.length c1_1, .slice A1_2 l1_2.length c1_2], .int .i64 a3, .bool false] (by rfl) rfl rfl zG ?_
   with_reducible refine (impl_MovesFrom.calls k a1_0 _ _ l1_1 _ _ l1_2 a3 false t405 _ ?side1 ?side2 ?side3 ?side4 A9.out).mono ?_
   (case side1 => exact cS HR1_1 HB)
   (case side2 => exact HC1_1.out)
   (case side3 => exact cS HR1_2 HB)
   (case side4 => exact HC1_2.out)
   rintro e w24 ⟨v406, rfl, ho0, hb⟩
   refine ⟨_, rfl, ?_⟩
   have HO407 := Aside0.mk (Kd.R_lower (Kd.R_new' ho0 (Kd.R_lt (zR HO404))) (below_size (zB HB)))
   replace HO404 := Aside0.mk (Kd.R_elder' (zR HO404) (Kd.R_base ho0) hb)
   replace BK400 := kB BK400 hb
   replace BK401 := kB BK401 hb
   replace HB := bS HB hb
   (try clear hb)
   (try clear hb2)
   (try clear hk)
   (try clear hi)
   (try clear ho0)
   obtain ⟨Ao25, co25, eo25⟩ := Kd.R_slice HO404.out
   (first | subst eo25 | (injection eo25 with f1_ f2_ f3_; have f4_ := f1_.symm; have f5_ := f3_.symm; clear f1_ f2_ f3_; subst f4_; subst f5_))
   obtain ⟨Ao26, co26, eo26⟩ := Kd.R_slice HO407.out
   (first | subst eo26 | (injection eo26 with f1_ f2_ f3_; have f4_ := f1_.symm; have f5_ := f3_.symm; clear f1_ f2_ f3_; subst f4_; subst f5_))
   refine hK.out _ _ ⟨bc0 BK400, bc1 BK400, bc2 BK400, bc0 BK401, bc1 BK401, bc2 BK401⟩ (fun hHeld => ?_)
   clear hK K
   refine norm_ (a' := ?_) ?_ ?_
   rotate_left
   ·show Act.put _ (some 15) _ = _
    simp only [Act.put, List.setIfInBounds_toArray, List.set_cons_zero, List.set_cons_succ, i64_w, i32_w]
    rfl
   refine one_ (i := 6) (N := some 16) (bm 21 127) rfl rfl (one_of HT_.out (by kernel_rfl)) (by decide) (fun K hK => ?_)
   refine goes_ Try.func70 (by kernel_rfl) rfl #[.slice Ao25 t402.length co25, .slice Ao26 t405.length co26] (by rfl) rfl rfl zG ?_
   with_reducible refine (impl_without.calls k _ _ t402 _ _ t405 t408 _ ?side1 ?side2 ?side3 ?side4 A10.out).mono ?_
   (case side1 => repeat (first | exact (Kd.R_reads' HO404.out).2.2 | (with_reducible refine Kd.C_alloc ?_ _) | (with_reducible refine Kd.C_drewN ?_ _) | (with_reducible refine Kd.C_drew ?_)))
   (case side2 => exact (Kd.R_reads' HO404.out).2.1)
   (case side3 => repeat (first | exact (Kd.R_reads' HO407.out).2.2 | (with_reducible refine Kd.C_alloc ?_ _) | (with_reducible refine Kd.C_drewN ?_ _) | (with_reducible refine Kd.C_drew ?_)))
   (case side4 => exact (Kd.R_reads' HO407.out).2.1)
   rintro e w27 ⟨v409, rfl, ho0, hb⟩
   refine ⟨_, rfl, ?_⟩
   have HO410 := Aside0.mk (Kd.R_lower (Kd.R_new' (Kd.R_new' ho0 (Kd.R_lt (zR HO404))) (Kd.R_lt (zR HO407))) (below_size (zB HB)))
   replace HO404 := Aside0.mk (Kd.R_elder' (zR HO404) (Kd.R_base ho0) hb)
   replace HO407 := Aside0.mk (Kd.R_elder' (zR HO407) (Kd.R_base ho0) hb)
   replace BK400 := kB BK400 hb
   replace BK401 := kB BK401 hb
   replace HB := bS HB hb
   (try clear hb)
   (try clear hb2)
   (try clear hk)
   (try clear hi)
   (try clear ho0)
   obtain ⟨Ao28, co28, eo28⟩ := Kd.R_slice HO410.out
   (first | subst eo28 | (injection eo28 with f1_ f2_ f3_; have f4_ := f1_.symm; have f5_ := f3_.symm; clear f1_ f2_ f3_; subst f4_; subst f5_))
   refine hK.out _ _ ⟨bc0 BK400, bc1 BK400, bc2 BK400, bc0 BK401, bc1 BK401, bc2 BK401⟩ (fun hHeld => ?_)
   clear hK K
   refine norm_ (a' := ?_) ?_ ?_
   rotate_left
   ·show Act.put _ (some 16) _ = _
    simp only [Act.put, List.setIfInBounds_toArray, List.set_cons_zero, List.set_cons_succ, i64_w, i32_w]
    rfl
   refine pU 7 (some 17) (bm 21 255) HT_ rfl rfl ?_
   refine pU 8 (some 18) (bm 21 511) HT_ rfl rfl ?_
   refine pU 9 (some 19) (bm 21 1023) HT_ rfl rfl ?_
   refine pU 11 (some 21) (bm 21 3071) HT_ rfl rfl ?_
   refine pU 14 (some 24) (bm 21 19455) HT_ rfl rfl ?_
   refine tU 10 (some 20) (bm 21 20479) HT_ HW_ rfl rfl hHeld ?_
   refine tU 13 (some 23) (bm 21 28671) HT_ HW_ rfl rfl hHeld ?_
   refine one_ (i := 12) (N := some 22) (bm 21 32767) rfl rfl (one_of HT_.out (by kernel_rfl)) (by decide) (fun K hK => ?_)
   refine goes_ Try.func64 (by kernel_rfl) rfl #[.agg #[.int .i64 a1_0, .slice A1_1 l1_1.length c1_1, .slice A1_2 l1_2.length c1_2], .int .i64 a3, .bool true] (by rfl) rfl rfl zG ?_
   with_reducible refine (impl_MovesFrom.calls k a1_0 _ _ l1_1 _ _ l1_2 a3 true t411 _ ?side1 ?side2 ?side3 ?side4 A19.out).mono ?_
   (case side1 => exact cS HR1_1 HB)
   (case side2 => exact HC1_1.out)
   (case side3 => exact cS HR1_2 HB)
   (case side4 => exact HC1_2.out)
   rintro e w29 ⟨v412, rfl, ho0, hb⟩
   refine ⟨_, rfl, ?_⟩
   have HO413 := Aside0.mk (Kd.R_lower (Kd.R_new' (Kd.R_new' (Kd.R_new' ho0 (Kd.R_lt (zR HO404))) (Kd.R_lt (zR HO407))) (Kd.R_lt (zR HO410))) (below_size (zB HB)))
   replace HO404 := Aside0.mk (Kd.R_elder' (zR HO404) (Kd.R_base ho0) hb)
   replace HO407 := Aside0.mk (Kd.R_elder' (zR HO407) (Kd.R_base ho0) hb)
   replace HO410 := Aside0.mk (Kd.R_elder' (zR HO410) (Kd.R_base ho0) hb)
   replace BK400 := kB BK400 hb
   replace BK401 := kB BK401 hb
   replace HB := bS HB hb
   (try clear hb)
   (try clear hb2)
   (try clear hk)
   (try clear hi)
   (try clear ho0)
   refine hK.out _ _ ⟨bc0 BK400, bc1 BK400, bc2 BK400, bc0 BK401, bc1 BK401, bc2 BK401⟩ (fun hHeld => ?_)
   clear hK K
   refine norm_ (a' := ?_) ?_ ?_
   rotate_left
   ·show Act.put _ (some 22) _ = _
    simp only [Act.put, List.setIfInBounds_toArray, List.set_cons_zero, List.set_cons_succ, i64_w, i32_w]
    rfl
   refine one_ (i := 15) (N := some 25) (bm 21 65535) rfl rfl (one_of HT_.out (by kernel_rfl)) (by decide) (fun K hK => ?_)
   refine goes_ Try.func64 (by kernel_rfl) rfl #[.agg #[.int .i64 a0_0, .slice A0_1 l0_1.length c0_1, .slice A0_2 l0_2.length c0_2], .int .i64 a2, .bool false] (by rfl) rfl rfl zG ?_
   with_reducible refine (impl_MovesFrom.calls k a0_0 _ _ l0_1 _ _ l0_2 a2 false t414 _ ?side1 ?side2 ?side3 ?side4 A20.out).mono ?_
   (case side1 => exact cS HR0_1 HB)
   (case side2 => exact HC0_1.out)
   (case side3 => exact cS HR0_2 HB)
   (case side4 => exact HC0_2.out)
   rintro e w30 ⟨v415, rfl, ho0, hb⟩
   refine ⟨_, rfl, ?_⟩
   have HO416 := Aside0.mk (Kd.R_lower (Kd.R_new' (Kd.R_new' (Kd.R_new' (Kd.R_new' ho0 (Kd.R_lt (zR HO404))) (Kd.R_lt (zR HO407))) (Kd.R_lt (zR HO410))) (Kd.R_lt (zR HO413))) (below_size (zB HB)))
   replace HO404 := Aside0.mk (Kd.R_elder' (zR HO404) (Kd.R_base ho0) hb)
   replace HO407 := Aside0.mk (Kd.R_elder' (zR HO407) (Kd.R_base ho0) hb)
   replace HO410 := Aside0.mk (Kd.R_elder' (zR HO410) (Kd.R_base ho0) hb)
   replace HO413 := Aside0.mk (Kd.R_elder' (zR HO413) (Kd.R_base ho0) hb)
   replace BK400 := kB BK400 hb
   replace BK401 := kB BK401 hb
   replace HB := bS HB hb
   (try clear hb)
   (try clear hb2)
   (try clear hk)
   (try clear hi)
   (try clear ho0)
   obtain ⟨Ao31, co31, eo31⟩ := Kd.R_slice HO413.out
   (first | subst eo31 | (injection eo31 with f1_ f2_ f3_; have f4_ := f1_.symm; have f5_ := f3_.symm; clear f1_ f2_ f3_; subst f4_; subst f5_))
   obtain ⟨Ao32, co32, eo32⟩ := Kd.R_slice HO416.out
   (first | subst eo32 | (injection eo32 with f1_ f2_ f3_; have f4_ := f1_.symm; have f5_ := f3_.symm; clear f1_ f2_ f3_; subst f4_; subst f5_))
   refine hK.out _ _ ⟨bc0 BK400, bc1 BK400, bc2 BK400, bc0 BK401, bc1 BK401, bc2 BK401⟩ (fun hHeld => ?_)
   clear hK K
   refine norm_ (a' := ?_) ?_ ?_
   rotate_left
   ·show Act.put _ (some 25) _ = _
    simp only [Act.put, List.setIfInBounds_toArray, List.set_cons_zero, List.set_cons_succ, i64_w, i32_w]
    rfl
   refine one_ (i := 16) (N := some 26) (bm 21 131071) rfl rfl (one_of HT_.out (by kernel_rfl)) (by decide) (fun K hK => ?_)
   refine goes_ Try.func70 (by kernel_rfl) rfl #[.slice Ao31 t411.length co31, .slice Ao32 t414.length co32] (by rfl) rfl rfl zG ?_
   with_reducible refine (impl_without.calls k _ _ t411 _ _ t414 t417 _ ?side1 ?side2 ?side3 ?side4 A21.out).mono ?_
   (case side1 => repeat (first | exact (Kd.R_reads' HO413.out).2.2 | (with_reducible refine Kd.C_alloc ?_ _) | (with_reducible refine Kd.C_drewN ?_ _) | (with_reducible refine Kd.C_drew ?_)))
   (case side2 => exact (Kd.R_reads' HO413.out).2.1)
   (case side3 => repeat (first | exact (Kd.R_reads' HO416.out).2.2 | (with_reducible refine Kd.C_alloc ?_ _) | (with_reducible refine Kd.C_drewN ?_ _) | (with_reducible refine Kd.C_drew ?_)))
   (case side4 => exact (Kd.R_reads' HO416.out).2.1)
   rintro e w33 ⟨v418, rfl, ho0, hb⟩
   refine ⟨_, rfl, ?_⟩
   have HO419 := Aside0.mk (Kd.R_lower (Kd.R_new' (Kd.R_new' (Kd.R_new' (Kd.R_new' (Kd.R_new' ho0 (Kd.R_lt (zR HO404))) (Kd.R_lt (zR HO407))) (Kd.R_lt (zR HO410))) (Kd.R_lt (zR HO413))) (Kd.R_lt (zR HO416))) (below_size (zB HB)))
   replace HO404 := Aside0.mk (Kd.R_elder' (zR HO404) (Kd.R_base ho0) hb)
   replace HO407 := Aside0.mk (Kd.R_elder' (zR HO407) (Kd.R_base ho0) hb)
   replace HO410 := Aside0.mk (Kd.R_elder' (zR HO410) (Kd.R_base ho0) hb)
   replace HO413 := Aside0.mk (Kd.R_elder' (zR HO413) (Kd.R_base ho0) hb)
   replace HO416 := Aside0.mk (Kd.R_elder' (zR HO416) (Kd.R_base ho0) hb)
   replace BK400 := kB BK400 hb
   replace BK401 := kB BK401 hb
   replace HB := bS HB hb
   (try clear hb)
   (try clear hb2)
   (try clear hk)
   (try clear hi)
   (try clear ho0)
   obtain ⟨Ao34, co34, eo34⟩ := Kd.R_slice HO419.out
   (first | subst eo34 | (injection eo34 with f1_ f2_ f3_; have f4_ := f1_.symm; have f5_ := f3_.symm; clear f1_ f2_ f3_; subst f4_; subst f5_))
   refine hK.out _ _ ⟨bc0 BK400, bc1 BK400, bc2 BK400, bc0 BK401, bc1 BK401, bc2 BK401⟩ (fun hHeld => ?_)
   clear hK K
   refine norm_ (a' := ?_) ?_ ?_
   rotate_left
   ·show Act.put _ (some 26) _ = _
    simp only [Act.put, List.setIfInBounds_toArray, List.set_cons_zero, List.set_cons_succ, i64_w, i32_w]
    rfl
   refine pU 17 (some 27) (bm 21 262143) HT_ rfl rfl ?_
   refine pU 18 (some 28) (bm 21 524287) HT_ rfl rfl ?_
   refine pU 19 (some 29) (bm 21 1048575) HT_ rfl rfl ?_
   refine pU 20 (some 9) (bm 21 2097151) HT_ rfl rfl ?_
   refine done_ (done_of HT_.out (by kernel_rfl)) ?_
   try clear hHeld
   try go_wp2
   go_meet
   case rel => exact ⟨_, (decide ((t417.length : Int) > 0)), zF, H', ⟨by first | omega | exact Nat.le_refl _⟩, ⟨zK BK400⟩, ⟨zK BK401⟩, ⟨zB HB⟩⟩
 case rest =>
  clear HC5
  try clear c1
  try clear p2
  try clear c6
  try clear c7
  try clear c11
  try clear c11b0
  try clear c11b1
  obtain ⟨kq, x9_4, rfl, HA, HJ4, BK400, BK401, HB⟩ := hcut
  cases kq with
  | zero => exact absurd HA.out (by simp [impl_TroubleAt.j0])
  | succ kj4 =>
   have H := HA.out
   clear HA
   simp only [impl_TroubleAt.j0] at H
   by_cases c35 : x9_4 = true
   ·subst c35
    have H1 : (some 1) = some r := by rw [if_pos rfl] at H; exact H
    clear H
    have H := H1
    clear H1
    obtain rfl := Option.some.inj H
    go_wp2
    go_ret
    exact ⟨zE, zB HB⟩
   ·replace c35 := Bool.eq_false_iff.mpr c35
    subst c35
    have H1 : ((impl_NextPairs.f kj4 a0_0 l0_1 l0_2 a1_0 l1_1 l1_2 a2 a3).bind fun t420 => (if (t420.length : Int) = 0 then ((impl_isEnd.f a0_0 l0_1 l0_2 a2).bind fun t423 => (if t423 = true then ((impl_isEnd.f a1_0 l1_1 l1_2 a3).bind fun t424 => (if t424 = true then (some 0) else (some 2))) else (some 2))) else (some 0))) = some r := by rw [if_neg (show ¬ (false = true) by decide)] at H; exact H
    clear H
    have H := H1
    clear H1
    obtain ⟨t420, A36, H⟩ := bindS H
    by_cases c37 : (t420.length : Int) = 0
    ·rw [if_pos c37] at H
     have c37b0 : ((t420.length : Int) == 0) = true := beq_iff_eq.mpr c37
     have c37b1 : ((t420.length : Int) != 0) = false := bne_eq_false_iff_eq.mpr c37
     clear c37
     obtain ⟨t423, A38, H⟩ := bindS H
     by_cases c39 : t423 = true
     ·subst c39
      have H1 : ((impl_isEnd.f a1_0 l1_1 l1_2 a3).bind fun t424 => (if t424 = true then (some 0) else (some 2))) = some r := by rw [if_pos rfl] at H; exact H
      clear H
      have H := H1
      clear H1
      obtain ⟨t424, A40, H⟩ := bindS H
      by_cases c41 : t424 = true
      ·subst c41
       have H1 : (some 0) = some r := by rw [if_pos rfl] at H; exact H
       clear H
       have H := H1
       clear H1
       obtain rfl := Option.some.inj H
       have hnb42 := NB400_401.out
       have hnc42 := NB401_400.out
       have hcz43_0 := bc0 BK400
       have hcz43_1 := bc1 BK400
       have hcz43_2 := bc2 BK400
       have hfz43_0 := bf BK400 0
       have hfz43_1 := bf BK400 1
       have hfz43_2 := bf BK400 2
       have hcz44_0 := bc0 BK401
       have hcz44_1 := bc1 BK401
       have hcz44_2 := bc2 BK401
       have hfz44_0 := bf BK401 0
       have hfz44_1 := bf BK401 1
       have hfz44_2 := bf BK401 2
       go_wp2_with (first | ((with_reducible refine gate_callee (f := 44) rfl ?_); refine goesL_ (some 35) rfl rfl Try.func44 (by kernel_rfl) rfl #[.agg #[.int .i64 a0_0, .slice A0_1 l0_1.length c0_1, .slice A0_2 l0_2.length c0_2], .agg #[.int .i64 a1_0, .slice A1_1 l1_1.length c1_1, .slice A1_2 l1_2.length c1_2], .int .i64 a2, .int .i64 a3] rfl zG ?_; (with_reducible refine (impl_NextPairs.calls kj4 a0_0 _ _ l0_1 _ _ l0_2 a1_0 _ _ l1_1 _ _ l1_2 a2 a3 t420 _ ?side1 ?side2 ?side3 ?side4 ?side5 ?side6 ?side7 ?side8 A36.out).mono ?_); (case side1 => exact cS HR0_1 HB); (case side2 => exact HC0_1.out); (case side3 => exact cS HR0_2 HB); (case side4 => exact HC0_2.out); (case side5 => exact cS HR1_1 HB); (case side6 => exact HC1_1.out); (case side7 => exact cS HR1_2 HB); (case side8 => exact HC1_2.out); rintro e w45 ⟨v421, rfl, ho0, hb⟩; refine ⟨_, rfl, ?_⟩; have HO422 := Aside0.mk (Kd.S_lower ho0 (below_size (zB HB))); replace BK400 := kB BK400 hb; replace BK401 := kB BK401 hb; replace HB := bS HB hb; (try clear hb); (try clear ho0); obtain ⟨Ao46, co46, eo46⟩ := Kd.S_slice HO422.out; subst eo46; have hcz47_0 := bc0 BK400; have hcz47_1 := bc1 BK400; have hcz47_2 := bc2 BK400; have hfz47_0 := bf BK400 0; have hfz47_1 := bf BK400 1; have hfz47_2 := bf BK400 2) | (go_at_call 71; (with_reducible refine (impl_isEnd.calls a0_0 _ _ l0_1 _ _ l0_2 a2 true _ ?side1 ?side2 ?side3 ?side4 A38.out).mono ?_); (case side1 => exact cS HR0_1 HB); (case side2 => exact HC0_1.out); (case side3 => exact cS HR0_2 HB); (case side4 => exact HC0_2.out); rintro e w48 ⟨rfl, hb⟩; replace HO422 := Aside0.mk (Kd.S_below (zS HO422) hb); replace BK400 := kB BK400 hb; replace BK401 := kB BK401 hb; replace HB := bS HB hb; (try clear hb); have hcz49_0 := bc0 BK401; have hcz49_1 := bc1 BK401; have hcz49_2 := bc2 BK401; have hfz49_0 := bf BK401 0; have hfz49_1 := bf BK401 1; have hfz49_2 := bf BK401 2) | (go_at_call 71; (with_reducible refine (impl_isEnd.calls a1_0 _ _ l1_1 _ _ l1_2 a3 true _ ?side1 ?side2 ?side3 ?side4 A40.out).mono ?_); (case side1 => exact cS HR1_1 HB); (case side2 => exact HC1_1.out); (case side3 => exact cS HR1_2 HB); (case side4 => exact HC1_2.out); rintro e w50 ⟨rfl, hb⟩; replace HO422 := Aside0.mk (Kd.S_below (zS HO422) hb); replace BK400 := kB BK400 hb; replace BK401 := kB BK401 hb; replace HB := bS HB hb; (try clear hb)))
       go_ret
       exact ⟨zE, zB HB⟩
      ·replace c41 := Bool.eq_false_iff.mpr c41
       subst c41
       have H1 : (some 2) = some r := by rw [if_neg (show ¬ (false = true) by decide)] at H; exact H
       clear H
       have H := H1
       clear H1
       obtain rfl := Option.some.inj H
       have hnb51 := NB400_401.out
       have hnc51 := NB401_400.out
       have hcz52_0 := bc0 BK400
       have hcz52_1 := bc1 BK400
       have hcz52_2 := bc2 BK400
       have hfz52_0 := bf BK400 0
       have hfz52_1 := bf BK400 1
       have hfz52_2 := bf BK400 2
       have hcz53_0 := bc0 BK401
       have hcz53_1 := bc1 BK401
       have hcz53_2 := bc2 BK401
       have hfz53_0 := bf BK401 0
       have hfz53_1 := bf BK401 1
       have hfz53_2 := bf BK401 2
       go_wp2_with (first | ((with_reducible refine gate_callee (f := 44) rfl ?_); refine goesL_ (some 35) rfl rfl Try.func44 (by kernel_rfl) rfl #[.agg #[.int .i64 a0_0, .slice A0_1 l0_1.length c0_1, .slice A0_2 l0_2.length c0_2], .agg #[.int .i64 a1_0, .slice A1_1 l1_1.length c1_1, .slice A1_2 l1_2.length c1_2], .int .i64 a2, .int .i64 a3] rfl zG ?_; (with_reducible refine (impl_NextPairs.calls kj4 a0_0 _ _ l0_1 _ _ l0_2 a1_0 _ _ l1_1 _ _ l1_2 a2 a3 t420 _ ?side1 ?side2 ?side3 ?side4 ?side5 ?side6 ?side7 ?side8 A36.out).mono ?_); (case side1 => exact cS HR0_1 HB); (case side2 => exact HC0_1.out); (case side3 => exact cS HR0_2 HB); (case side4 => exact HC0_2.out); (case side5 => exact cS HR1_1 HB); (case side6 => exact HC1_1.out); (case side7 => exact cS HR1_2 HB); (case side8 => exact HC1_2.out); rintro e w54 ⟨v421, rfl, ho0, hb⟩; refine ⟨_, rfl, ?_⟩; have HO422 := Aside0.mk (Kd.S_lower ho0 (below_size (zB HB))); replace BK400 := kB BK400 hb; replace BK401 := kB BK401 hb; replace HB := bS HB hb; (try clear hb); (try clear ho0); obtain ⟨Ao55, co55, eo55⟩ := Kd.S_slice HO422.out; subst eo55; have hcz56_0 := bc0 BK400; have hcz56_1 := bc1 BK400; have hcz56_2 := bc2 BK400; have hfz56_0 := bf BK400 0; have hfz56_1 := bf BK400 1; have hfz56_2 := bf BK400 2) | (go_at_call 71; (with_reducible refine (impl_isEnd.calls a0_0 _ _ l0_1 _ _ l0_2 a2 true _ ?side1 ?side2 ?side3 ?side4 A38.out).mono ?_); (case side1 => exact cS HR0_1 HB); (case side2 => exact HC0_1.out); (case side3 => exact cS HR0_2 HB); (case side4 => exact HC0_2.out); rintro e w57 ⟨rfl, hb⟩; replace HO422 := Aside0.mk (Kd.S_below (zS HO422) hb); replace BK400 := kB BK400 hb; replace BK401 := kB BK401 hb; replace HB := bS HB hb; (try clear hb); have hcz58_0 := bc0 BK401; have hcz58_1 := bc1 BK401; have hcz58_2 := bc2 BK401; have hfz58_0 := bf BK401 0; have hfz58_1 := bf BK401 1; have hfz58_2 := bf BK401 2) | (go_at_call 71; (with_reducible refine (impl_isEnd.calls a1_0 _ _ l1_1 _ _ l1_2 a3 false _ ?side1 ?side2 ?side3 ?side4 A40.out).mono ?_); (case side1 => exact cS HR1_1 HB); (case side2 => exact HC1_1.out); (case side3 => exact cS HR1_2 HB); (case side4 => exact HC1_2.out); rintro e w59 ⟨rfl, hb⟩; replace HO422 := Aside0.mk (Kd.S_below (zS HO422) hb); replace BK400 := kB BK400 hb; replace BK401 := kB BK401 hb; replace HB := bS HB hb; (try clear hb)))
       go_ret
       exact ⟨zE, zB HB⟩
     ·replace c39 := Bool.eq_false_iff.mpr c39
      subst c39
      have H1 : (some 2) = some r := by rw [if_neg (show ¬ (false = true) by decide)] at H; exact H
      clear H
      have H := H1
      clear H1
      obtain rfl := Option.some.inj H
      have hnb60 := NB400_401.out
      have hnc60 := NB401_400.out
      have hcz61_0 := bc0 BK400
      have hcz61_1 := bc1 BK400
      have hcz61_2 := bc2 BK400
      have hfz61_0 := bf BK400 0
      have hfz61_1 := bf BK400 1
      have hfz61_2 := bf BK400 2
      have hcz62_0 := bc0 BK401
      have hcz62_1 := bc1 BK401
      have hcz62_2 := bc2 BK401
      have hfz62_0 := bf BK401 0
      have hfz62_1 := bf BK401 1
      have hfz62_2 := bf BK401 2
      go_wp2_with (first | ((with_reducible refine gate_callee (f := 44) rfl ?_); refine goesL_ (some 35) rfl rfl Try.func44 (by kernel_rfl) rfl #[.agg #[.int .i64 a0_0, .slice A0_1 l0_1.length c0_1, .slice A0_2 l0_2.length c0_2], .agg #[.int .i64 a1_0, .slice A1_1 l1_1.length c1_1, .slice A1_2 l1_2.length c1_2], .int .i64 a2, .int .i64 a3] rfl zG ?_; (with_reducible refine (impl_NextPairs.calls kj4 a0_0 _ _ l0_1 _ _ l0_2 a1_0 _ _ l1_1 _ _ l1_2 a2 a3 t420 _ ?side1 ?side2 ?side3 ?side4 ?side5 ?side6 ?side7 ?side8 A36.out).mono ?_); (case side1 => exact cS HR0_1 HB); (case side2 => exact HC0_1.out); (case side3 => exact cS HR0_2 HB); (case side4 => exact HC0_2.out); (case side5 => exact cS HR1_1 HB); (case side6 => exact HC1_1.out); (case side7 => exact cS HR1_2 HB); (case side8 => exact HC1_2.out); rintro e w63 ⟨v421, rfl, ho0, hb⟩; refine ⟨_, rfl, ?_⟩; have HO422 := Aside0.mk (Kd.S_lower ho0 (below_size (zB HB))); replace BK400 := kB BK400 hb; replace BK401 := kB BK401 hb; replace HB := bS HB hb; (try clear hb); (try clear ho0); obtain ⟨Ao64, co64, eo64⟩ := Kd.S_slice HO422.out; subst eo64; have hcz65_0 := bc0 BK400; have hcz65_1 := bc1 BK400; have hcz65_2 := bc2 BK400; have hfz65_0 := bf BK400 0; have hfz65_1 := bf BK400 1; have hfz65_2 := bf BK400 2) | (go_at_call 71; (with_reducible refine (impl_isEnd.calls a0_0 _ _ l0_1 _ _ l0_2 a2 false _ ?side1 ?side2 ?side3 ?side4 A38.out).mono ?_); (case side1 => exact cS HR0_1 HB); (case side2 => exact HC0_1.out); (case side3 => exact cS HR0_2 HB); (case side4 => exact HC0_2.out); rintro e w66 ⟨rfl, hb⟩; replace HO422 := Aside0.mk (Kd.S_below (zS HO422) hb); replace BK400 := kB BK400 hb; replace BK401 := kB BK401 hb; replace HB := bS HB hb; (try clear hb)))
      go_ret
      exact ⟨zE, zB HB⟩
    ·rw [if_neg c37] at H
     have c37b0 : ((t420.length : Int) == 0) = false := beq_eq_false_iff_ne.mpr c37
     have c37b1 : ((t420.length : Int) != 0) = true := bne_iff_ne.mpr c37
     have c37b2 : ¬ (t420 = []) := fun h_ => c37 (by rw [h_]; rfl)
     obtain rfl := Option.some.inj H
     have hnb67 := NB400_401.out
     have hnc67 := NB401_400.out
     have hcz68_0 := bc0 BK400
     have hcz68_1 := bc1 BK400
     have hcz68_2 := bc2 BK400
     have hfz68_0 := bf BK400 0
     have hfz68_1 := bf BK400 1
     have hfz68_2 := bf BK400 2
     have hcz69_0 := bc0 BK401
     have hcz69_1 := bc1 BK401
     have hcz69_2 := bc2 BK401
     have hfz69_0 := bf BK401 0
     have hfz69_1 := bf BK401 1
     have hfz69_2 := bf BK401 2
     go_wp2_with (first | ((with_reducible refine gate_callee (f := 44) rfl ?_); refine goesL_ (some 35) rfl rfl Try.func44 (by kernel_rfl) rfl #[.agg #[.int .i64 a0_0, .slice A0_1 l0_1.length c0_1, .slice A0_2 l0_2.length c0_2], .agg #[.int .i64 a1_0, .slice A1_1 l1_1.length c1_1, .slice A1_2 l1_2.length c1_2], .int .i64 a2, .int .i64 a3] rfl zG ?_; (with_reducible refine (impl_NextPairs.calls kj4 a0_0 _ _ l0_1 _ _ l0_2 a1_0 _ _ l1_1 _ _ l1_2 a2 a3 t420 _ ?side1 ?side2 ?side3 ?side4 ?side5 ?side6 ?side7 ?side8 A36.out).mono ?_); (case side1 => exact cS HR0_1 HB); (case side2 => exact HC0_1.out); (case side3 => exact cS HR0_2 HB); (case side4 => exact HC0_2.out); (case side5 => exact cS HR1_1 HB); (case side6 => exact HC1_1.out); (case side7 => exact cS HR1_2 HB); (case side8 => exact HC1_2.out); rintro e w70 ⟨v421, rfl, ho0, hb⟩; refine ⟨_, rfl, ?_⟩; have HO422 := Aside0.mk (Kd.S_lower ho0 (below_size (zB HB))); replace BK400 := kB BK400 hb; replace BK401 := kB BK401 hb; replace HB := bS HB hb; (try clear hb); (try clear ho0); obtain ⟨Ao71, co71, eo71⟩ := Kd.S_slice HO422.out; subst eo71))
     go_ret
     exact ⟨zE, zB HB⟩

/-! ### impl_FirstTrouble: function 21 -/
def impl_FirstTrouble.l0 : Nat → List (List Int) → Int → Int → Int → List Bool → List (S64) → Int → List Bool → List (S64) → Option (List Int)
 | 0, _, _, _, _, _, _, _, _, _ => none
 | k + 1, x9, x10, x11, x426000, x426001, x426002, x427000, x427001, x427002 => if x11 < x10 then (if 0 ≤ x11 then (if x11 < (x9.length : Int) then (if 0 < ((rd_L4 x9 x11).length : Int) then (if 1 < ((rd_L4 x9 x11).length : Int) then ((impl_TroubleAt.f k x426000 x426001 x426002 x427000 x427001 x427002 (rd (rd_L4 x9 x11) 0) (rd (rd_L4 x9 x11) 1)).bind fun t433 => (if t433 = 0 then (impl_FirstTrouble.l0 k x9 x10 (wrap64 (x11 + 1)) x426000 x426001 x426002 x427000 x427001 x427002) else (some (rd_L4 x9 x11)))) else (none)) else (none)) else (none)) else (none)) else (some ([] : List Int))
def impl_FirstTrouble.f (k : Nat) (a0_0 : Int) (l0_1 : List Bool) (l0_2 : List (S64)) (a1_0 : Int) (l1_1 : List Bool) (l1_2 : List (S64)) : Option (List Int) := (impl_PairsOf.f k a0_0 l0_1 l0_2 a1_0 l1_1 l1_2).bind fun t427 => (impl_FirstTrouble.l0 k t427 (t427.length : Int) 0 a0_0 l0_1 l0_2 a1_0 l1_1 l1_2)
theorem impl_FirstTrouble.mono_l : ∀ k, (∀ y0 y1 y2 y3 y4 y5 y6 y7 y8, LeO (impl_FirstTrouble.l0 k y0 y1 y2 y3 y4 y5 y6 y7 y8) (impl_FirstTrouble.l0 (k + 1) y0 y1 y2 y3 y4 y5 y6 y7 y8))
 | 0 => fun _ _ _ _ _ _ _ _ _ r h => by simp [impl_FirstTrouble.l0] at h
 | k + 1 => by
  have ih0 := impl_FirstTrouble.mono_l k
  ·intro y0 y1 y2 y3 y4 y5 y6 y7 y8
   unfold impl_FirstTrouble.l0
   repeat' first
   | (with_reducible exact ih0 _ _ _ _ _ _ _ _ _)
   | (with_reducible exact impl_PairsOf.mono _ _ _ _ _ _ _)
   | (with_reducible exact impl_TroubleAt.mono _ _ _ _ _ _ _ _ _)
   | (with_reducible exact LeO.refl _)
   | (with_reducible exact LeO.none _)
   | (with_reducible refine LeO.ite ?_ ?_)
   | (with_reducible refine LeO.bind ?_ (fun _ => ?_))
   | exact ih0 _ _ _ _ _ _ _ _ _
   | exact impl_PairsOf.mono _ _ _ _ _ _ _
   | exact impl_TroubleAt.mono _ _ _ _ _ _ _ _ _
   | exact LeO.none _
   | refine LeO.ite ?_ ?_
   | refine LeO.bind ?_ (fun _ => ?_)
theorem impl_FirstTrouble.mono : ∀ a0 a1 a2 a3 a4 a5 k, LeO (impl_FirstTrouble.f k a0 a1 a2 a3 a4 a5) (impl_FirstTrouble.f (k + 1) a0 a1 a2 a3 a4 a5) := by
 intro a0 a1 a2 a3 a4 a5 k
 have ih0 := impl_FirstTrouble.mono_l k
 unfold impl_FirstTrouble.f
 repeat' first
   | (with_reducible exact ih0 _ _ _ _ _ _ _ _ _)
   | (with_reducible exact impl_PairsOf.mono _ _ _ _ _ _ _)
   | (with_reducible exact impl_TroubleAt.mono _ _ _ _ _ _ _ _ _)
   | (with_reducible exact LeO.refl _)
   | (with_reducible exact LeO.none _)
   | (with_reducible refine LeO.ite ?_ ?_)
   | (with_reducible refine LeO.bind ?_ (fun _ => ?_))
   | exact ih0 _ _ _ _ _ _ _ _ _
   | exact impl_PairsOf.mono _ _ _ _ _ _ _
   | exact impl_TroubleAt.mono _ _ _ _ _ _ _ _ _
   | exact LeO.none _
   | refine LeO.ite ?_ ?_
   | refine LeO.bind ?_ (fun _ => ?_)
def impl_FirstTrouble.T4 : Bool × List (List Nat × List Nat) := (true, [([], []), ([], []), ([], []), ([2], [2]), ([3], [3]), ([], []), ([5], [5]), ([6], [6]), ([0, 1, 4, 7], [0, 1, 4, 7]), ([8], [8])])
def impl_FirstTrouble.B4 : List Nat := [0, 0, 0, 4, 12, 0, 32, 96, 255, 511]
theorem impl_FirstTrouble.tab4 : rtab .any (opsOf Try.f21 4) = impl_FirstTrouble.T4 := by kernel_rfl
theorem impl_FirstTrouble.bits4 : waitsOk impl_FirstTrouble.T4.2 impl_FirstTrouble.B4 = true := by kernel_rfl
set_option maxHeartbeats 8000000 in
set_option maxRecDepth 100000 in
theorem impl_FirstTrouble.calls (k : Nat) (a0_0 : Int) (A0_1 : Option Addr) (c0_1 : Nat) (l0_1 : List Bool) (A0_2 : Option Addr) (c0_2 : Nat) (l0_2 : List (S64)) (a1_0 : Int) (A1_1 : Option Addr) (c1_1 : Nat) (l1_1 : List Bool) (A1_2 : Option Addr) (c1_2 : Nat) (l1_2 : List (S64)) (r : List Int) (w : World) (hr0_1 : Kd.C Kd.bool w A0_1 l0_1.length l0_1) (hc0_1 : l0_1.length ≤ c0_1) (hr0_2 : Kd.C k64 w A0_2 l0_2.length l0_2) (hc0_2 : l0_2.length ≤ c0_2) (hr1_1 : Kd.C Kd.bool w A1_1 l1_1.length l1_1) (hc1_1 : l1_1.length ≤ c1_1) (hr1_2 : Kd.C k64 w A1_2 l1_2.length l1_2) (hc1_2 : l1_2.length ≤ c1_2) (h : impl_FirstTrouble.f k a0_0 l0_1 l0_2 a1_0 l1_1 l1_2 = some r) :
  Calls Try.prog 21 #[.agg #[.int .i64 a0_0, .slice A0_1 l0_1.length c0_1, .slice A0_2 l0_2.length c0_2], .agg #[.int .i64 a1_0, .slice A1_1 l1_1.length c1_1, .slice A1_2 l1_2.length c1_2]] w fun e w' => ∃ v0_ : Value, e = .returned (v0_) ∧ Kd.R (Kd.int .i64) 3 w' w.heap.size (fun _ => True) v0_ r ∧ Below w.heap.size w w' := by
 have hu31 := Try.underlying31
 have HR0_1 := Aside0.mk hr0_1
 have HC0_1 := Aside0.mk hc0_1
 clear hr0_1 hc0_1
 have HR0_2 := Aside0.mk hr0_2
 have HC0_2 := Aside0.mk hc0_2
 clear hr0_2 hc0_2
 have HR1_1 := Aside0.mk hr1_1
 have HC1_1 := Aside0.mk hc1_1
 clear hr1_1 hc1_1
 have HR1_2 := Aside0.mk hr1_2
 have HC1_2 := Aside0.mk hc1_2
 clear hr1_2 hc1_2
 have HB := Aside0.mk (Below.refl w.heap.size w)
 have H : ((impl_PairsOf.f k a0_0 l0_1 l0_2 a1_0 l1_1 l1_2).bind fun t427 => (impl_FirstTrouble.l0 k t427 (t427.length : Int) 0 a0_0 l0_1 l0_2 a1_0 l1_1 l1_2)) = some r := h
 clear h
 obtain ⟨t427, A3, H⟩ := bindS H
 have H' := Aside0.mk H
 clear H
 go_enter Try.func21, Try.ntmps21
 go_wp2_with (first | ((with_reducible refine gate_dst (N := 2) rfl ?_); refine box_event ?hg (N := 2) ?hd (cs := #[.int .i64 a0_0, .slice A0_1 l0_1.length c0_1, .slice A0_2 l0_2.length c0_2]) (t := 31) ?hr ?_; (case hd => rfl); (case hg => rfl); (case hr => first | (go_simp; done) | (go_simp; rfl)); intro gb425 hg w4 hbox hb; have BK425 := Aside0.mk (hbox); have GW425 := gS HB hg; have GE425 := gS HB hg; replace HB := bS HB hb; clear hb hbox hg) | ((with_reducible refine gate_dst (N := 3) rfl ?_); refine box_event ?hg (N := 3) ?hd (cs := #[.int .i64 a1_0, .slice A1_1 l1_1.length c1_1, .slice A1_2 l1_2.length c1_2]) (t := 31) ?hr ?_; (case hd => rfl); (case hg => rfl); (case hr => first | (go_simp; done) | (go_simp; rfl)); intro gb426 hg w5 hbox hb; have BK426 := Aside0.mk (hbox); have GW426 := gS HB hg; have GE426 := gS HB hg; replace HB := bS HB hb; have NB425_426 := nL BK425 hg; have NB426_425 := nR BK425 hg; replace BK425 := kB BK425 hb; clear hb hbox hg; have hnb6 := NB425_426.out; have hnc6 := NB426_425.out; have hcz7_0 := bc0 BK425; have hcz7_1 := bc1 BK425; have hcz7_2 := bc2 BK425; have hfz7_0 := bf BK425 0; have hfz7_1 := bf BK425 1; have hfz7_2 := bf BK425 2; have hcz8_0 := bc0 BK426; have hcz8_1 := bc1 BK426; have hcz8_2 := bc2 BK426; have hfz8_0 := bf BK426 0; have hfz8_1 := bf BK426 1; have hfz8_2 := bf BK426 2) | ((with_reducible refine gate_callee (f := 12) rfl ?_); refine goesL_ (some 9) rfl rfl Try.func12 (by kernel_rfl) rfl #[.agg #[.int .i64 a0_0, .slice A0_1 l0_1.length c0_1, .slice A0_2 l0_2.length c0_2], .agg #[.int .i64 a1_0, .slice A1_1 l1_1.length c1_1, .slice A1_2 l1_2.length c1_2]] rfl zG ?_; (with_reducible refine (impl_PairsOf.calls k a0_0 _ _ l0_1 _ _ l0_2 a1_0 _ _ l1_1 _ _ l1_2 t427 _ ?side1 ?side2 ?side3 ?side4 ?side5 ?side6 ?side7 ?side8 A3.out).mono ?_); (case side1 => exact cS HR0_1 HB); (case side2 => exact HC0_1.out); (case side3 => exact cS HR0_2 HB); (case side4 => exact HC0_2.out); (case side5 => exact cS HR1_1 HB); (case side6 => exact HC1_1.out); (case side7 => exact cS HR1_2 HB); (case side8 => exact HC1_2.out); rintro e w9 ⟨v428, rfl, ho0, hb⟩; refine ⟨_, rfl, ?_⟩; have HO429 := Aside0.mk (Kd.S_lower ho0 (below_size (zB HB))); replace BK425 := kB BK425 hb; replace BK426 := kB BK426 hb; replace HB := bS HB hb; (try clear hb); (try clear ho0); obtain ⟨Ao10, co10, eo10⟩ := Kd.S_slice HO429.out; subst eo10))
 go_loopg [11] k (fun kq v11 w' => ∃ (x11_1 : Int), v11 = .int .i64 x11_1 ∧ Aside0 (impl_FirstTrouble.l0 kq t427 (t427.length : Int) x11_1 a0_0 l0_1 l0_2 a1_0 l1_1 l1_2 = some r) ∧ Aside0 (kq ≤ k) ∧ Aside0 (Kd.S (Kd.slice 3 (Kd.int .i64)) 38 w' w.heap.size (fun _ => True) (.slice Ao10 t427.length co10) t427) ∧ Aside0 (w'.heap[gb425]? = some (.cells #[.int .i64 a0_0, (.slice A0_1 l0_1.length c0_1), (.slice A0_2 l0_2.length c0_2)] 31 (0, 0))) ∧ Aside0 (w'.heap[gb426]? = some (.cells #[.int .i64 a1_0, (.slice A1_1 l1_1.length c1_1), (.slice A1_2 l1_2.length c1_2)] 31 (0, 0))) ∧ Aside0 (Below w.heap.size w w'))
 case atStart => exact ⟨(0), zF, H', ⟨Nat.le_refl _⟩, ⟨zS HO429⟩, ⟨zK BK425⟩, ⟨zK BK426⟩, ⟨zB HB⟩⟩
 case round =>
  clear H'
  try clear c1
  try clear c2
  try clear p2
  try clear c6
  try clear hcz7_0
  try clear hcz7_1
  try clear hcz7_2
  try clear hcz8_0
  try clear hcz8_1
  try clear hcz8_2
  try clear hfz7_0
  try clear hfz7_1
  try clear hfz7_2
  try clear hfz8_0
  try clear hfz8_1
  try clear hfz8_2
  obtain ⟨x11_1, rfl, HA, HK1, HO_9, BK425, BK426, HB⟩ := hrel
  cases gk with
  | zero => exact absurd HA.out (by simp [impl_FirstTrouble.l0])
  | succ k1 =>
   have H := HA.out
   clear HA
   simp only [impl_FirstTrouble.l0] at H
   by_cases c11 : x11_1 < (t427.length : Int)
   ·rw [if_pos c11] at H
    have c11b0 : decide (x11_1 < (t427.length : Int)) = true := decide_eq_true c11
    clear c11
    obtain ⟨c12, H⟩ := ifS H
    have c12b0 : decide (0 ≤ x11_1) = true := decide_eq_true c12
    clear c12
    obtain ⟨c13, H⟩ := ifS H
    have c13b0 : decide (x11_1 < (t427.length : Int)) = true := decide_eq_true c13
    clear c13
    obtain ⟨c14, H⟩ := ifS H
    have c14b0 : decide (0 < ((rd_L4 t427 x11_1).length : Int)) = true := decide_eq_true c14
    have c14b1 : decide (0 < (rd_L4 t427 x11_1).length) = true := decide_eq_true (by omega)
    clear c14
    obtain ⟨c15, H⟩ := ifS H
    have c15b0 : decide (1 < ((rd_L4 t427 x11_1).length : Int)) = true := decide_eq_true c15
    have c15b1 : decide (1 < (rd_L4 t427 x11_1).length) = true := decide_eq_true (by omega)
    clear c15
    obtain ⟨t433, A16, H⟩ := bindS H
    by_cases c17 : t433 = 0
    ·rw [if_pos c17] at H
     have c17b0 : (t433 == 0) = true := beq_iff_eq.mpr c17
     have c17b1 : (t433 != 0) = false := bne_eq_false_iff_eq.mpr c17
     clear c17
     have H' := Aside0.mk H
     clear H
     have p430 : 0 ≤ (x11_1 : Int) := zD
     have q430 : x11_1 < (t427.length : Int) := zD
     obtain ⟨ad430, A430_0, c430_0, e430, hx430_0, hl430_0, hi430_0⟩ := at_L4 (Kd.S_reads' HO_9.out).2.2 x11_1 p430 q430
     cases e430
     obtain ⟨ce430, hce430, hMe430, hcc430⟩ := Kd.S_get HO_9.out [] x11_1 p430 (by first | exact q430 | exact zD | (have e_ := (Kd.S_reads' HO_9.out).1; omega))
     obtain ⟨ve430_0, rfl, ge430_0⟩ := hMe430
     have hv430_0 := hcc430 0 _ rfl
     rw [Nat.add_zero, show ((Kd.slice 3 (Kd.int .i64))).sz = 1 from rfl, Nat.mul_one] at hv430_0
     replace hv430_0 := Option.some.inj (hv430_0.symm.trans hx430_0)
     rw [hv430_0] at ge430_0
     have HL430_0 := Aside0.mk (show Kd.R (Kd.int .i64) 3 _ _ _ _ (rd_L4 t427 x11_1) from ge430_0)
     clear hv430_0 ge430_0
     clear hcc430 hce430
     have HR430_0 := Aside0.mk hi430_0
     have HC430_0 := Aside0.mk hl430_0
     clear hi430_0 hl430_0
     replace p430 := eq_true p430
     replace q430 := eq_true q430
     try go_wp2
     replace HO_9 := Aside0.mk (Kd.S_drew HO_9.out)
     replace HL430_0 := Aside0.mk (Kd.R_drew HL430_0.out)
     replace BK425 := Aside0.mk (blk_drew BK425.out)
     replace BK426 := Aside0.mk (blk_drew BK426.out)
     replace HR430_0 := Aside0.mk (Kd.C_drew HR430_0.out)
     replace HB := Aside0.mk (below_drew1 HB.out)
     have p431 : 0 ≤ (0 : Int) := (by omega)
     have q431 : 0 < ((rd_L4 t427 x11_1).length : Int) := zD
     obtain ⟨ad431, e431, hx431_0⟩ := Kd.at_int (by repeat (first | (with_reducible exact HR430_0.out) | (with_reducible refine Kd.C_alloc ?_ _) | (with_reducible refine Kd.C_drewN ?_ _) | (with_reducible refine Kd.C_drew ?_) | exact HR430_0.out)) 0 p431 q431
     cases e431
     have qi431 : (0 < (rd_L4 t427 x11_1).length) = True := eq_true (by omega)
     (try rw [show ((0 : Int)).toNat = 0 from rfl] at hx431_0)
     (try rw [Addr.add_zero'] at hx431_0)
     replace p431 := eq_true p431
     replace q431 := eq_true q431
     have p432 : 0 ≤ (1 : Int) := (by omega)
     have q432 : 1 < ((rd_L4 t427 x11_1).length : Int) := zD
     obtain ⟨ad432, e432, hx432_0⟩ := Kd.at_int (by repeat (first | (with_reducible exact HR430_0.out) | (with_reducible refine Kd.C_alloc ?_ _) | (with_reducible refine Kd.C_drewN ?_ _) | (with_reducible refine Kd.C_drew ?_) | exact HR430_0.out)) 1 p432 q432
     obtain rfl : ad431 = ad432 := (by injection e432)
     (try simp only [show (1 : Int).toNat = 1 from rfl, Nat.reduceMul, Nat.reduceEqDiff, Go.Addr.add, ↓reduceIte] at hx432_0)
     have qi432 : (1 < (rd_L4 t427 x11_1).length) = True := eq_true (by omega)
     (try rw [show ((1 : Int)).toNat = 1 from rfl] at hx432_0)
     replace p432 := eq_true p432
     replace q432 := eq_true q432
     refine start_ (n := 10) (S := fun w' => w'.cell? ⟨gb425, 0, none⟩ = some (.int .i64 a0_0) ∧ w'.cell? ⟨gb425, 1, none⟩ = some (.slice A0_1 l0_1.length c0_1) ∧ w'.cell? ⟨gb425, 2, none⟩ = some (.slice A0_2 l0_2.length c0_2) ∧ w'.cell? ⟨gb426, 0, none⟩ = some (.int .i64 a1_0) ∧ w'.cell? ⟨gb426, 1, none⟩ = some (.slice A1_1 l1_1.length c1_1) ∧ w'.cell? ⟨gb426, 2, none⟩ = some (.slice A1_2 l1_2.length c1_2) ∧ w'.cell? ad431 = some (.int .i64 (rd (rd_L4 t427 x11_1) 0)) ∧ w'.cell? ⟨ad431.block, ad431.off + 1, none⟩ = some (.int .i64 (rd (rd_L4 t427 x11_1) 1))) (ds := []) (bm 10 0) (by kernel_rfl) rfl (bm0 _) ⟨bc0 BK425, bc1 BK425, bc2 BK425, bc0 BK426, bc1 BK426, bc2 BK426, hx431_0, hx432_0⟩ (fun hHeld => ?_); refine with_tabW impl_FirstTrouble.tab4 impl_FirstTrouble.bits4 (fun HT_ HW_ => ?_)
     generalize wr.drew = w18 at HO_9 HL430_0 BK425 BK426 HR430_0 HB hx431_0 hx432_0 hHeld ⊢
     refine pU 2 (some 17) (bm 10 4) HT_ rfl rfl ?_
     refine pU 3 (some 18) (bm 10 12) HT_ rfl rfl ?_
     refine pU 5 (some 20) (bm 10 44) HT_ rfl rfl ?_
     refine pU 6 (some 21) (bm 10 108) HT_ rfl rfl ?_
     refine tU 0 (some 15) (bm 10 109) HT_ HW_ rfl rfl hHeld ?_
     refine tU 1 (some 16) (bm 10 111) HT_ HW_ rfl rfl hHeld ?_
     refine tU 4 (some 19) (bm 10 127) HT_ HW_ rfl rfl hHeld ?_
     refine tU 7 (some 22) (bm 10 255) HT_ HW_ rfl rfl hHeld ?_
     refine one_ (i := 8) (N := some 23) (bm 10 511) rfl rfl (one_of HT_.out (by kernel_rfl)) (by decide) (fun K hK => ?_)
     refine goes_ Try.func54 (by kernel_rfl) rfl #[.agg #[.int .i64 a0_0, .slice A0_1 l0_1.length c0_1, .slice A0_2 l0_2.length c0_2], .agg #[.int .i64 a1_0, .slice A1_1 l1_1.length c1_1, .slice A1_2 l1_2.length c1_2], .int .i64 (rd (rd_L4 t427 x11_1) 0), .int .i64 (rd (rd_L4 t427 x11_1) 1)] (by rfl) rfl rfl zG ?_
     with_reducible refine (impl_TroubleAt.calls k1 a0_0 _ _ l0_1 _ _ l0_2 a1_0 _ _ l1_1 _ _ l1_2 (rd (rd_L4 t427 x11_1) 0) (rd (rd_L4 t427 x11_1) 1) t433 _ ?side1 ?side2 ?side3 ?side4 ?side5 ?side6 ?side7 ?side8 A16.out).mono ?_
     (case side1 => exact cS HR0_1 HB)
     (case side2 => exact HC0_1.out)
     (case side3 => exact cS HR0_2 HB)
     (case side4 => exact HC0_2.out)
     (case side5 => exact cS HR1_1 HB)
     (case side6 => exact HC1_1.out)
     (case side7 => exact cS HR1_2 HB)
     (case side8 => exact HC1_2.out)
     rintro e w19 ⟨rfl, hb⟩
     have HS6_ := (hb.cell (World.block_lt_of_cell? _ _ (hHeld.2.2.2.2.2.2.1))).trans (hHeld.2.2.2.2.2.2.1)
     have HS7_ := (hb.cell (World.block_lt_of_cell? _ _ (hHeld.2.2.2.2.2.2.2))).trans (hHeld.2.2.2.2.2.2.2)
     refine ⟨_, rfl, ?_⟩
     replace HO_9 := Aside0.mk (Kd.S_below (zS HO_9) hb)
     replace HL430_0 := Aside0.mk (Kd.R_below (zR HL430_0) hb)
     replace BK425 := kB BK425 hb
     replace BK426 := kB BK426 hb
     replace HR430_0 := Aside0.mk (Kd.C_below (by repeat (first | (with_reducible exact HR430_0.out) | (with_reducible refine Kd.C_alloc ?_ _) | (with_reducible refine Kd.C_drewN ?_ _) | (with_reducible refine Kd.C_drew ?_) | exact HR430_0.out)) hb)
     replace HB := bS HB hb
     (try clear hb)
     (try clear hb2)
     (try clear hk)
     (try clear hi)
     refine hK.out _ _ ⟨bc0 BK425, bc1 BK425, bc2 BK425, bc0 BK426, bc1 BK426, bc2 BK426, HS6_, HS7_⟩ (fun hHeld => ?_)
     clear hK K
     refine norm_ (a' := ?_) ?_ ?_
     rotate_left
     ·show Act.put _ (some 23) _ = _
      simp only [Act.put, List.setIfInBounds_toArray, List.set_cons_zero, List.set_cons_succ, i64_w, i32_w]
      rfl
     refine pU 9 (some 24) (bm 10 1023) HT_ rfl rfl ?_
     refine done_ (done_of HT_.out (by kernel_rfl)) ?_
     try clear hHeld
     try go_wp2
     go_roundg k1
     case measure => have := HK1.out; omega
     case rel => exact ⟨(wrap64 (x11_1 + 1)), zF, H', ⟨by have := HK1.out; omega⟩, ⟨zS HO_9⟩, ⟨zK BK425⟩, ⟨zK BK426⟩, ⟨zB HB⟩⟩
    ·rw [if_neg c17] at H
     have c17b0 : (t433 == 0) = false := beq_eq_false_iff_ne.mpr c17
     have c17b1 : (t433 != 0) = true := bne_iff_ne.mpr c17
     obtain rfl := Option.some.inj H
     have p430 : 0 ≤ (x11_1 : Int) := zD
     have q430 : x11_1 < (t427.length : Int) := zD
     obtain ⟨ad430, A430_0, c430_0, e430, hx430_0, hl430_0, hi430_0⟩ := at_L4 (Kd.S_reads' HO_9.out).2.2 x11_1 p430 q430
     cases e430
     obtain ⟨ce430, hce430, hMe430, hcc430⟩ := Kd.S_get HO_9.out [] x11_1 p430 (by first | exact q430 | exact zD | (have e_ := (Kd.S_reads' HO_9.out).1; omega))
     obtain ⟨ve430_0, rfl, ge430_0⟩ := hMe430
     have hv430_0 := hcc430 0 _ rfl
     rw [Nat.add_zero, show ((Kd.slice 3 (Kd.int .i64))).sz = 1 from rfl, Nat.mul_one] at hv430_0
     replace hv430_0 := Option.some.inj (hv430_0.symm.trans hx430_0)
     rw [hv430_0] at ge430_0
     have HL430_0 := Aside0.mk (show Kd.R (Kd.int .i64) 3 _ _ _ _ (rd_L4 t427 x11_1) from ge430_0)
     clear hv430_0 ge430_0
     clear hcc430 hce430
     have HR430_0 := Aside0.mk hi430_0
     have HC430_0 := Aside0.mk hl430_0
     clear hi430_0 hl430_0
     replace p430 := eq_true p430
     replace q430 := eq_true q430
     try go_wp2
     replace HO_9 := Aside0.mk (Kd.S_drew HO_9.out)
     replace HL430_0 := Aside0.mk (Kd.R_drew HL430_0.out)
     replace BK425 := Aside0.mk (blk_drew BK425.out)
     replace BK426 := Aside0.mk (blk_drew BK426.out)
     replace HR430_0 := Aside0.mk (Kd.C_drew HR430_0.out)
     replace HB := Aside0.mk (below_drew1 HB.out)
     have p431 : 0 ≤ (0 : Int) := (by omega)
     have q431 : 0 < ((rd_L4 t427 x11_1).length : Int) := zD
     obtain ⟨ad431, e431, hx431_0⟩ := Kd.at_int (by repeat (first | (with_reducible exact HR430_0.out) | (with_reducible refine Kd.C_alloc ?_ _) | (with_reducible refine Kd.C_drewN ?_ _) | (with_reducible refine Kd.C_drew ?_) | exact HR430_0.out)) 0 p431 q431
     cases e431
     have qi431 : (0 < (rd_L4 t427 x11_1).length) = True := eq_true (by omega)
     (try rw [show ((0 : Int)).toNat = 0 from rfl] at hx431_0)
     (try rw [Addr.add_zero'] at hx431_0)
     replace p431 := eq_true p431
     replace q431 := eq_true q431
     have p432 : 0 ≤ (1 : Int) := (by omega)
     have q432 : 1 < ((rd_L4 t427 x11_1).length : Int) := zD
     obtain ⟨ad432, e432, hx432_0⟩ := Kd.at_int (by repeat (first | (with_reducible exact HR430_0.out) | (with_reducible refine Kd.C_alloc ?_ _) | (with_reducible refine Kd.C_drewN ?_ _) | (with_reducible refine Kd.C_drew ?_) | exact HR430_0.out)) 1 p432 q432
     obtain rfl : ad431 = ad432 := (by injection e432)
     (try simp only [show (1 : Int).toNat = 1 from rfl, Nat.reduceMul, Nat.reduceEqDiff, Go.Addr.add, ↓reduceIte] at hx432_0)
     have qi432 : (1 < (rd_L4 t427 x11_1).length) = True := eq_true (by omega)
     (try rw [show ((1 : Int)).toNat = 1 from rfl] at hx432_0)
     replace p432 := eq_true p432
     replace q432 := eq_true q432
     refine start_ (n := 10) (S := fun w' => w'.cell? ⟨gb425, 0, none⟩ = some (.int .i64 a0_0) ∧ w'.cell? ⟨gb425, 1, none⟩ = some (.slice A0_1 l0_1.length c0_1) ∧ w'.cell? ⟨gb425, 2, none⟩ = some (.slice A0_2 l0_2.length c0_2) ∧ w'.cell? ⟨gb426, 0, none⟩ = some (.int .i64 a1_0) ∧ w'.cell? ⟨gb426, 1, none⟩ = some (.slice A1_1 l1_1.length c1_1) ∧ w'.cell? ⟨gb426, 2, none⟩ = some (.slice A1_2 l1_2.length c1_2) ∧ w'.cell? ad431 = some (.int .i64 (rd (rd_L4 t427 x11_1) 0)) ∧ w'.cell? ⟨ad431.block, ad431.off + 1, none⟩ = some (.int .i64 (rd (rd_L4 t427 x11_1) 1))) (ds := []) (bm 10 0) (by kernel_rfl) rfl (bm0 _) ⟨bc0 BK425, bc1 BK425, bc2 BK425, bc0 BK426, bc1 BK426, bc2 BK426, hx431_0, hx432_0⟩ (fun hHeld => ?_); refine with_tabW impl_FirstTrouble.tab4 impl_FirstTrouble.bits4 (fun HT_ HW_ => ?_)
     generalize wr.drew = w20 at HO_9 HL430_0 BK425 BK426 HR430_0 HB hx431_0 hx432_0 hHeld ⊢
     refine pU 2 (some 17) (bm 10 4) HT_ rfl rfl ?_
     refine pU 3 (some 18) (bm 10 12) HT_ rfl rfl ?_
     refine pU 5 (some 20) (bm 10 44) HT_ rfl rfl ?_
     refine pU 6 (some 21) (bm 10 108) HT_ rfl rfl ?_
     refine tU 0 (some 15) (bm 10 109) HT_ HW_ rfl rfl hHeld ?_
     refine tU 1 (some 16) (bm 10 111) HT_ HW_ rfl rfl hHeld ?_
     refine tU 4 (some 19) (bm 10 127) HT_ HW_ rfl rfl hHeld ?_
     refine tU 7 (some 22) (bm 10 255) HT_ HW_ rfl rfl hHeld ?_
     refine one_ (i := 8) (N := some 23) (bm 10 511) rfl rfl (one_of HT_.out (by kernel_rfl)) (by decide) (fun K hK => ?_)
     refine goes_ Try.func54 (by kernel_rfl) rfl #[.agg #[.int .i64 a0_0, .slice A0_1 l0_1.length c0_1, .slice A0_2 l0_2.length c0_2], .agg #[.int .i64 a1_0, .slice A1_1 l1_1.length c1_1, .slice A1_2 l1_2.length c1_2], .int .i64 (rd (rd_L4 t427 x11_1) 0), .int .i64 (rd (rd_L4 t427 x11_1) 1)] (by rfl) rfl rfl zG ?_
     with_reducible refine (impl_TroubleAt.calls k1 a0_0 _ _ l0_1 _ _ l0_2 a1_0 _ _ l1_1 _ _ l1_2 (rd (rd_L4 t427 x11_1) 0) (rd (rd_L4 t427 x11_1) 1) t433 _ ?side1 ?side2 ?side3 ?side4 ?side5 ?side6 ?side7 ?side8 A16.out).mono ?_
     (case side1 => exact cS HR0_1 HB)
     (case side2 => exact HC0_1.out)
     (case side3 => exact cS HR0_2 HB)
     (case side4 => exact HC0_2.out)
     (case side5 => exact cS HR1_1 HB)
     (case side6 => exact HC1_1.out)
     (case side7 => exact cS HR1_2 HB)
     (case side8 => exact HC1_2.out)
     rintro e w21 ⟨rfl, hb⟩
     have HS6_ := (hb.cell (World.block_lt_of_cell? _ _ (hHeld.2.2.2.2.2.2.1))).trans (hHeld.2.2.2.2.2.2.1)
     have HS7_ := (hb.cell (World.block_lt_of_cell? _ _ (hHeld.2.2.2.2.2.2.2))).trans (hHeld.2.2.2.2.2.2.2)
     refine ⟨_, rfl, ?_⟩
     replace HO_9 := Aside0.mk (Kd.S_below (zS HO_9) hb)
     replace HL430_0 := Aside0.mk (Kd.R_below (zR HL430_0) hb)
     replace BK425 := kB BK425 hb
     replace BK426 := kB BK426 hb
     replace HR430_0 := Aside0.mk (Kd.C_below (by repeat (first | (with_reducible exact HR430_0.out) | (with_reducible refine Kd.C_alloc ?_ _) | (with_reducible refine Kd.C_drewN ?_ _) | (with_reducible refine Kd.C_drew ?_) | exact HR430_0.out)) hb)
     replace HB := bS HB hb
     (try clear hb)
     (try clear hb2)
     (try clear hk)
     (try clear hi)
     refine hK.out _ _ ⟨bc0 BK425, bc1 BK425, bc2 BK425, bc0 BK426, bc1 BK426, bc2 BK426, HS6_, HS7_⟩ (fun hHeld => ?_)
     clear hK K
     refine norm_ (a' := ?_) ?_ ?_
     rotate_left
     ·show Act.put _ (some 23) _ = _
      simp only [Act.put, List.setIfInBounds_toArray, List.set_cons_zero, List.set_cons_succ, i64_w, i32_w]
      rfl
     refine pU 9 (some 24) (bm 10 1023) HT_ rfl rfl ?_
     refine done_ (done_of HT_.out (by kernel_rfl)) ?_
     try clear hHeld
     try go_wp2
     go_ret
     exact ⟨_, zE, by (with_reducible repeat (first | apply Kd.R_alloc | apply Kd.R_drewN | apply Kd.R_drew)); exact Kd.R_mono HL430_0.out (fun _ hk => trivial), zB HB⟩
   ·rw [if_neg c11] at H
    have c11b0 : decide (x11_1 < (t427.length : Int)) = false := decide_eq_false c11
    clear c11
    obtain rfl := Option.some.inj H
    go_wp2
    go_ret
    exact ⟨_, zE, by first | exact Kd.R_nil _ _ _ _ _ | exact Kd.N_nil _ _ _ _ _ | exact Kd.V_nil _ _ _ _ _ | exact Kd.Q_nil _ _ _ _ _ | exact Kd.S_nil _ _ _ _ _, zB HB⟩

end Go.Proofs.Ytmenijbpglknbaa.PFnExactFirstTrouble
